import Derived.Shelf.Strings.Builder1
import Derived.Shelf.Strings.Builder2
import Derived.Shelf.Small.Bits
import Derived.Shelf.Small.Wraps
import Derived.Shelf.Strings.BuilderF
import Derived.Shelf.Strings.BuilderK
import Derived.Shelf.Strings.Builder2Cap
import Derived.Shelf.Strconv.Atoi
import Derived.Shelf.Strconv.Itoa0
import Derived.Shelf.Strconv.Itoa1
import Derived.Shelf.LaysM
import Derived.Shelf.Strconv.Itoa2
import Derived.Shelf.Strconv.Itoa3
import Derived.Shelf.Strconv.AtoiErrFast
import Derived.Shelf.Strconv.ParseIntEmpty
import Derived.Shelf.Strconv.AtoiFail
import Derived.Shelf.Strconv.Clone
import Derived.Shelf.Strconv.SyntaxError
import Derived.Shelf.LaysC
import Derived.Shelf.Strconv.ToError
import Derived.Shelf.Strconv.AtoiErr
import Derived.Shelf.Strconv.ErrVar
import Derived.Shelf.Strconv.Lower
import Derived.Shelf.Strconv.ParseUint10
import Derived.Shelf.Strconv.ParseUint10Empty
import Derived.Shelf.Strconv.ParseUint10Any
import Derived.Shelf.Strconv.ParseInt10
import Derived.Shelf.Strconv.AtoiLong
import Derived.Shelf.Strconv.AtoiInnerAll
import Derived.Shelf.Strconv.RangeError
import Derived.Shelf.Strconv.ToErrorRange
import Derived.Shelf.Strconv.AtoiAll
import Derived.Shelf.Strconv.ErrVarAll
import Derived.Shelf.Strconv.ParseUintEmpty
import Derived.Shelf.Strconv.ParseUint10b64
import Derived.Shelf.Strconv.ParseUint10b32
import Derived.Shelf.Strconv.ParseUint10b16
import Derived.Shelf.Strconv.ParseUint10b8
import Derived.Shelf.Strconv.ParseUint10At
import Derived.Shelf.Strconv.ParseInt10At64
import Derived.Shelf.Strconv.ParseInt10At32
import Derived.Shelf.Strconv.ParseInt10At16
import Derived.Shelf.Strconv.ParseInt10At8
import Derived.Shelf.Strconv.ParseInt10All
import Derived.Shelf.Sort.Plain
import Derived.Shelf.Strings.Prefix
import Derived.Shelf.Bits.Mul64
import Derived.Shelf.Strings.Repeat
import Derived.Shelf.Strings.BuilderCap
import Derived.Ground.Names2Prog
import Derived.Shelf.Slices.Clone
import Derived.Shelf.Slices.CompactI
import Derived.Shelf.Slices.SearchI
import Derived.Shelf.Slices.Cells
import Derived.Shelf.Slices.In.SortNone
import Derived.Shelf.Slices.Empties
import Derived.Ground.SlgnProg
import Derived.Shelf.SlicesE.Clone
import Derived.Test.YtligonpmifolfaaGreatDoorProg
import Derived.Test.YtligonpmifolfaaGreatDoorLvFour
import Derived.Test.YtligonpmifolfaaGreatDoorLkThree
import Derived.ProofKit
import Derived.Deep.RegionHeld3
import Derived.StillTailTactics
import Derived.LoopTactic
import Derived.Lib.AtoiAll
import Derived.Lib.ItoaNum
import Derived.Lib.Repeat
import Derived.Test.YtligonpmifolfaaGreatDoorLkTwo
import Derived.Lib.LaidTab
import Derived.Lib.AppendIntMem
import Derived.Lib.SmallJoins
set_option linter.all false
section
/-
 DERIVED: THE SHELF's CONTRACTS AT THIS DUMP, IN PLAIN WORDS (tools/lay-plain.mjs out of 'TryzShelf.lean', which tools/lay-shelf.mjs wrote): THE SAME DECLARATIONS UNDER THE SAME NAMES: 'import', 'namespace', 'open', 'def', 'theorem' AND NOTHING ELSE: no command of the shelf's: FOR A HAND-IN. Each laying: the table of numbers ('.._ren') and one theorem, a field a fact of the dump's own or the kernel's comparison; each contract: ONE APPLICATION.
-/
namespace Go.Proofs
open Go.Shelf
def Tryz.laysM171_ren : Go.Shelf.Ren := ⟨fun | 171 => 109 | 243 => 124 | 246 => 137 | 283 => 143 | 284 => 144 | 285 => 145 | 286 => 146 | 129 => 101 | 317 => 150 | 318 => 151 | 319 => 152 | 320 => 153 | 337 => 154 | 338 => 155 | n => n, fun | 3 => 3 | 9 => 9 | 2 => 2 | 4 => 4 | 171 => 174 | 0 => 0 | 53 => 55 | 37 => 131 | 5 => 5 | 173 => 176 | 212 => 182 | 51 => 128 | 20 => 20 | 213 => 183 | 46 => 110 | 232 => 184 | 233 => 185 | n => n, fun | 17 => 2 | 18 => 4 | 19 => 5 | n => n⟩
theorem Tryz.laysM171 : Go.Proofs.LaysM.n171 Tryz.prog Tryz.laysM171_ren := {
 mixed := by kernel_rfl
 f129 := Tryz.func101.trans (congrArg some (by kernel_rfl))
 f171 := Tryz.func109.trans (congrArg some (by kernel_rfl))
 f243 := Tryz.func124.trans (congrArg some (by kernel_rfl))
 f246 := Tryz.func137.trans (congrArg some (by kernel_rfl))
 f283 := Tryz.func143.trans (congrArg some (by kernel_rfl))
 f284 := Tryz.func144.trans (congrArg some (by kernel_rfl))
 f285 := Tryz.func145.trans (congrArg some (by kernel_rfl))
 f286 := Tryz.func146.trans (congrArg some (by kernel_rfl))
 f317 := Tryz.func150.trans (congrArg some (by kernel_rfl))
 f318 := Tryz.func151.trans (congrArg some (by kernel_rfl))
 f319 := Tryz.func152.trans (congrArg some (by kernel_rfl))
 f320 := Tryz.func153.trans (congrArg some (by kernel_rfl))
 f337 := Tryz.func154.trans (congrArg some (by kernel_rfl))
 f338 := Tryz.func155.trans (congrArg some (by kernel_rfl))
 t0 := Tryz.underlying0
 a0 := Tryz.isAgg0
 z0 := Tryz.sizeOf0
 v0 := Tryz.zeroValue0
 t2 := Tryz.underlying2
 a2 := Tryz.isAgg2
 z2 := Tryz.sizeOf2
 v2 := Tryz.zeroValue2
 t3 := Tryz.underlying3
 a3 := Tryz.isAgg3
 z3 := Tryz.sizeOf3
 v3 := Tryz.zeroValue3
 t4 := Tryz.underlying4
 a4 := Tryz.isAgg4
 z4 := Tryz.sizeOf4
 v4 := Tryz.zeroValue4
 t5 := Tryz.underlying5
 a5 := Tryz.isAgg5
 z5 := Tryz.sizeOf5
 v5 := Tryz.zeroValue5
 t9 := Tryz.underlying9
 a9 := Tryz.isAgg9
 z9 := Tryz.sizeOf9
 v9 := Tryz.zeroValue9
 t20 := Tryz.underlying20
 a20 := Tryz.isAgg20
 z20 := Tryz.sizeOf20
 v20 := Tryz.zeroValue20
 t37 := Tryz.underlying131
 a37 := Tryz.isAgg131
 z37 := Tryz.sizeOf131
 v37 := Tryz.zeroValue131
 t46 := Tryz.underlying110
 a46 := Tryz.isAgg110
 z46 := Tryz.sizeOf110
 v46 := Tryz.zeroValue110
 t51 := Tryz.underlying128
 a51 := Tryz.isAgg128
 z51 := Tryz.sizeOf128
 v51 := Tryz.zeroValue128
 t53 := Tryz.underlying55
 a53 := Tryz.isAgg55
 z53 := Tryz.sizeOf55
 v53 := Tryz.zeroValue55
 t171 := Tryz.underlying174
 a171 := Tryz.isAgg174
 z171 := Tryz.sizeOf174
 v171 := Tryz.zeroValue174
 t173 := Tryz.underlying176
 a173 := Tryz.isAgg176
 z173 := Tryz.sizeOf176
 v173 := Tryz.zeroValue176
 t212 := Tryz.underlying182
 a212 := Tryz.isAgg182
 z212 := Tryz.sizeOf182
 v212 := Tryz.zeroValue182
 t213 := Tryz.underlying183
 a213 := Tryz.isAgg183
 z213 := Tryz.sizeOf183
 t232 := Tryz.underlying184
 a232 := Tryz.isAgg184
 z232 := Tryz.sizeOf184
 v232 := Tryz.zeroValue184
 t233 := Tryz.underlying185
 a233 := Tryz.isAgg185
 z233 := Tryz.sizeOf185
 v233 := Tryz.zeroValue185
 g17 := by kernel_rfl
 g18 := by kernel_rfl
 g19 := by kernel_rfl
 i0 := by kernel_rfl
 i2 := by kernel_rfl
 i3 := by kernel_rfl
 i4 := by kernel_rfl
 i5 := by kernel_rfl
 i9 := by kernel_rfl
 i20 := by kernel_rfl
 i37 := by kernel_rfl
 i46 := by kernel_rfl
 i51 := by kernel_rfl
 i53 := by kernel_rfl
 i171 := by kernel_rfl
 i173 := by kernel_rfl
 i212 := by kernel_rfl
 i232 := by kernel_rfl
 i233 := by kernel_rfl
 m17 := by kernel_rfl
 m18 := by kernel_rfl
 m19 := by kernel_rfl }
open Go.RowKit Go.Sort Go.Lib in
theorem Tryz.strconv_Itoa (n : Int) (h0 : -9223372036854775808 ≤ n) (h1 : n ≤ 9223372036854775807) (w : World) (htab : Lib.TabIs Tryz.prog w "internal/strconv.uint64pow10" .u64 Lib.pow10Tab) :
  Calls Tryz.prog 109 #[.int .i64 n] w fun e w' => e = .returned (.string ⟨(Lib.itoa n).toArray⟩) ∧ ∃ k os, w' = grow (w.drewN k) os := Any.strconv_Itoa Tryz.laysM171 n h0 h1 w htab
def Tryz.laysC172_ren : Go.Shelf.Ren := ⟨fun | 172 => 56 | 244 => 77 | 245 => 78 | 247 => 104 | 279 => 105 | 280 => 106 | 281 => 107 | 282 => 108 | 287 => 121 | 316 => 122 | 171 => 109 | 205 => 123 | 321 => 135 | 322 => 136 | 243 => 124 | 246 => 137 | 283 => 143 | 284 => 144 | 285 => 145 | 286 => 146 | 129 => 101 | 317 => 150 | 318 => 151 | 319 => 152 | 320 => 153 | 337 => 154 | 338 => 155 | n => n, fun | 9 => 9 | 3 => 3 | 75 => 90 | 76 => 91 | 4 => 4 | 5 => 5 | 167 => 130 | 37 => 131 | 0 => 0 | 85 => 132 | 2 => 2 | 168 => 134 | 53 => 55 | 175 => 147 | 46 => 110 | 210 => 151 | 127 => 165 | 145 => 168 | 143 => 166 | 21 => 21 | 171 => 174 | 173 => 176 | 212 => 182 | 51 => 128 | 20 => 20 | 213 => 183 | 232 => 184 | 233 => 185 | 80 => 158 | n => n, fun | 15 => 0 | 16 => 1 | 17 => 2 | 18 => 4 | 19 => 5 | n => n⟩
theorem Tryz.laysC172 : Go.Proofs.LaysC.n172 Tryz.prog Tryz.laysC172_ren := {
 mixed := by kernel_rfl
 f129 := Tryz.func101.trans (congrArg some (by kernel_rfl))
 f171 := Tryz.func109.trans (congrArg some (by kernel_rfl))
 f172 := Tryz.func56.trans (congrArg some (by kernel_rfl))
 f205 := Tryz.func123.trans (congrArg some (by kernel_rfl))
 f243 := Tryz.func124.trans (congrArg some (by kernel_rfl))
 f244 := Tryz.func77.trans (congrArg some (by kernel_rfl))
 f245 := Tryz.func78.trans (congrArg some (by kernel_rfl))
 f246 := Tryz.func137.trans (congrArg some (by kernel_rfl))
 f247 := Tryz.func104.trans (congrArg some (by kernel_rfl))
 f279 := Tryz.func105.trans (congrArg some (by kernel_rfl))
 f280 := Tryz.func106.trans (congrArg some (by kernel_rfl))
 f281 := Tryz.func107.trans (congrArg some (by kernel_rfl))
 f282 := Tryz.func108.trans (congrArg some (by kernel_rfl))
 f283 := Tryz.func143.trans (congrArg some (by kernel_rfl))
 f284 := Tryz.func144.trans (congrArg some (by kernel_rfl))
 f285 := Tryz.func145.trans (congrArg some (by kernel_rfl))
 f286 := Tryz.func146.trans (congrArg some (by kernel_rfl))
 f287 := Tryz.func121.trans (congrArg some (by kernel_rfl))
 f316 := Tryz.func122.trans (congrArg some (by kernel_rfl))
 f317 := Tryz.func150.trans (congrArg some (by kernel_rfl))
 f318 := Tryz.func151.trans (congrArg some (by kernel_rfl))
 f319 := Tryz.func152.trans (congrArg some (by kernel_rfl))
 f320 := Tryz.func153.trans (congrArg some (by kernel_rfl))
 f321 := Tryz.func135.trans (congrArg some (by kernel_rfl))
 f322 := Tryz.func136.trans (congrArg some (by kernel_rfl))
 f337 := Tryz.func154.trans (congrArg some (by kernel_rfl))
 f338 := Tryz.func155.trans (congrArg some (by kernel_rfl))
 t0 := Tryz.underlying0
 a0 := Tryz.isAgg0
 z0 := Tryz.sizeOf0
 v0 := Tryz.zeroValue0
 t2 := Tryz.underlying2
 a2 := Tryz.isAgg2
 z2 := Tryz.sizeOf2
 v2 := Tryz.zeroValue2
 t3 := Tryz.underlying3
 a3 := Tryz.isAgg3
 z3 := Tryz.sizeOf3
 v3 := Tryz.zeroValue3
 t4 := Tryz.underlying4
 a4 := Tryz.isAgg4
 z4 := Tryz.sizeOf4
 v4 := Tryz.zeroValue4
 t5 := Tryz.underlying5
 a5 := Tryz.isAgg5
 z5 := Tryz.sizeOf5
 v5 := Tryz.zeroValue5
 t9 := Tryz.underlying9
 a9 := Tryz.isAgg9
 z9 := Tryz.sizeOf9
 v9 := Tryz.zeroValue9
 t20 := Tryz.underlying20
 a20 := Tryz.isAgg20
 z20 := Tryz.sizeOf20
 v20 := Tryz.zeroValue20
 t21 := Tryz.underlying21
 a21 := Tryz.isAgg21
 z21 := Tryz.sizeOf21
 v21 := Tryz.zeroValue21
 t37 := Tryz.underlying131
 a37 := Tryz.isAgg131
 z37 := Tryz.sizeOf131
 v37 := Tryz.zeroValue131
 t46 := Tryz.underlying110
 a46 := Tryz.isAgg110
 z46 := Tryz.sizeOf110
 v46 := Tryz.zeroValue110
 t51 := Tryz.underlying128
 a51 := Tryz.isAgg128
 z51 := Tryz.sizeOf128
 v51 := Tryz.zeroValue128
 t53 := Tryz.underlying55
 a53 := Tryz.isAgg55
 z53 := Tryz.sizeOf55
 v53 := Tryz.zeroValue55
 t75 := Tryz.underlying90
 a75 := Tryz.isAgg90
 z75 := Tryz.sizeOf90
 v75 := Tryz.zeroValue90
 t76 := Tryz.underlying91
 a76 := Tryz.isAgg91
 z76 := Tryz.sizeOf91
 v76 := Tryz.zeroValue91
 t85 := Tryz.underlying132
 a85 := Tryz.isAgg132
 z85 := Tryz.sizeOf132
 v85 := Tryz.zeroValue132
 t127 := Tryz.underlying165
 a127 := Tryz.isAgg165
 z127 := Tryz.sizeOf165
 v127 := Tryz.zeroValue165
 t143 := Tryz.underlying166
 a143 := Tryz.isAgg166
 z143 := Tryz.sizeOf166
 v143 := Tryz.zeroValue166
 t145 := Tryz.underlying168
 a145 := Tryz.isAgg168
 z145 := Tryz.sizeOf168
 v145 := Tryz.zeroValue168
 t167 := Tryz.underlying130
 a167 := Tryz.isAgg130
 z167 := Tryz.sizeOf130
 v167 := Tryz.zeroValue130
 t168 := Tryz.underlying134
 a168 := Tryz.isAgg134
 z168 := Tryz.sizeOf134
 v168 := Tryz.zeroValue134
 t171 := Tryz.underlying174
 a171 := Tryz.isAgg174
 z171 := Tryz.sizeOf174
 v171 := Tryz.zeroValue174
 t173 := Tryz.underlying176
 a173 := Tryz.isAgg176
 z173 := Tryz.sizeOf176
 v173 := Tryz.zeroValue176
 t175 := Tryz.underlying147
 a175 := Tryz.isAgg147
 z175 := Tryz.sizeOf147
 v175 := Tryz.zeroValue147
 t210 := Tryz.underlying151
 a210 := Tryz.isAgg151
 z210 := Tryz.sizeOf151
 v210 := Tryz.zeroValue151
 t212 := Tryz.underlying182
 a212 := Tryz.isAgg182
 z212 := Tryz.sizeOf182
 v212 := Tryz.zeroValue182
 t213 := Tryz.underlying183
 a213 := Tryz.isAgg183
 z213 := Tryz.sizeOf183
 t232 := Tryz.underlying184
 a232 := Tryz.isAgg184
 z232 := Tryz.sizeOf184
 v232 := Tryz.zeroValue184
 t233 := Tryz.underlying185
 a233 := Tryz.isAgg185
 z233 := Tryz.sizeOf185
 v233 := Tryz.zeroValue185
 g15 := by kernel_rfl
 g16 := by kernel_rfl
 g17 := by kernel_rfl
 g18 := by kernel_rfl
 g19 := by kernel_rfl
 t80 := Tryz.underlying158
 a80 := Tryz.isAgg158
 z80 := Tryz.sizeOf158
 v80 := Tryz.zeroValue158
 i0 := by kernel_rfl
 i2 := by kernel_rfl
 i3 := by kernel_rfl
 i4 := by kernel_rfl
 i5 := by kernel_rfl
 i9 := by kernel_rfl
 i20 := by kernel_rfl
 i21 := by kernel_rfl
 i37 := by kernel_rfl
 i46 := by kernel_rfl
 i51 := by kernel_rfl
 i53 := by kernel_rfl
 i75 := by kernel_rfl
 i76 := by kernel_rfl
 i80 := by kernel_rfl
 i85 := by kernel_rfl
 i127 := by kernel_rfl
 i143 := by kernel_rfl
 i145 := by kernel_rfl
 i167 := by kernel_rfl
 i168 := by kernel_rfl
 i171 := by kernel_rfl
 i173 := by kernel_rfl
 i175 := by kernel_rfl
 i210 := by kernel_rfl
 i212 := by kernel_rfl
 i232 := by kernel_rfl
 i233 := by kernel_rfl
 m15 := by kernel_rfl
 m16 := by kernel_rfl
 m17 := by kernel_rfl
 m18 := by kernel_rfl
 m19 := by kernel_rfl
 c0 := by kernel_rfl
 c2 := by kernel_rfl
 c3 := by kernel_rfl
 c4 := by kernel_rfl
 c5 := by kernel_rfl
 c9 := by kernel_rfl
 c20 := by kernel_rfl
 c21 := by kernel_rfl
 c37 := by kernel_rfl
 c46 := by kernel_rfl
 c51 := by kernel_rfl
 c53 := by kernel_rfl
 c75 := by kernel_rfl
 c76 := by kernel_rfl
 c80 := by kernel_rfl
 c85 := by kernel_rfl
 c127 := by kernel_rfl
 c143 := by kernel_rfl
 c145 := by kernel_rfl
 c167 := by kernel_rfl
 c168 := by kernel_rfl
 c171 := by kernel_rfl
 c173 := by kernel_rfl
 c175 := by kernel_rfl
 c210 := by kernel_rfl
 c212 := by kernel_rfl
 c213 := by kernel_rfl
 c232 := by kernel_rfl
 c233 := by kernel_rfl }
open Go.RowKit in
theorem Tryz.strconv_Atoi_ok (s : ByteArray) (hmax : s.size ≤ 9223372036854775806) (v : Int) (h : Lib.atoiAll s.data.toList = .ok v) (w : World) :
  Calls Tryz.prog 56 #[.string s] w fun e w' => e = .returned (.tuple #[.int .i64 v, .nilIface]) ∧ (w' = w ∨ ∃ t, w' = Lib.bytesWorld w 5 t) := Any.strconv_Atoi_ok Tryz.laysC172 s hmax v h w
open Go.RowKit in
theorem Tryz.strconv_Atoi_syntax (s : ByteArray) (hlim : s.size ≤ 281474976710656) (h : Lib.atoiAll s.data.toList = Lib.NumEnd.syntax) (ev : Value) (w : World) (hv : w.cell? ⟨0, 0, none⟩ = some ev) (hev : ev = .nilIface ∨ ∃ te pe, ev = .iface te pe) :
  Calls Tryz.prog 56 #[.string s] w fun e w' => ∃ N, e = .returned (.tuple #[.int .i64 (0), .iface 134 (.pointer (some ⟨N, 0, none⟩))]) ∧ w.heap.size ≤ N ∧ w'.heap[N]? = some (.cells #[.string ⟨#[65, 116, 111, 105]⟩, .string s, ev] 151 (0, 0)) ∧ Below w.heap.size w w' := Any.strconv_Atoi_syntax Tryz.laysC172 s hlim h ev w hv hev
open Go.RowKit in
theorem Tryz.strconv_Atoi_range (s : ByteArray) (hlim : s.size ≤ 281474976710656) (h : Lib.atoiAll s.data.toList = .range) (ev : Value) (w : World) (hv : w.cell? ⟨1, 0, none⟩ = some ev) (hev : ev = .nilIface ∨ ∃ te pe, ev = .iface te pe) :
  Calls Tryz.prog 56 #[.string s] w fun e w' => ∃ N, e = .returned (.tuple #[.int .i64 (Lib.atoiSat s.data.toList), .iface 134 (.pointer (some ⟨N, 0, none⟩))]) ∧ w.heap.size ≤ N ∧ w'.heap[N]? = some (.cells #[.string ⟨#[65, 116, 111, 105]⟩, .string s, ev] 151 (0, 0)) ∧ Below w.heap.size w w' := Any.strconv_Atoi_range Tryz.laysC172 s hlim h ev w hv hev
def Tryz.lays189_ren : Go.Shelf.Ren := ⟨fun | 189 => 51 | 125 => 74 | 257 => 73 | 128 => 100 | 129 => 101 | 294 => 92 | 295 => 93 | 296 => 94 | 297 => 95 | 298 => 96 | 299 => 97 | 216 => 87 | 300 => 98 | 301 => 99 | 328 => 116 | 329 => 117 | 330 => 118 | 331 => 119 | 332 => 120 | 215 => 114 | 343 => 134 | n => n, fun | 28 => 29 | 3 => 3 | 46 => 110 | 0 => 0 | 51 => 128 | 53 => 55 | 4 => 4 | 183 => 122 | 182 => 121 | 131 => 96 | 5 => 5 | 9 => 9 | 218 => 141 | 222 => 145 | 228 => 161 | 229 => 162 | n => n, fun | n => n⟩
theorem Tryz.lays189 : Go.Proofs.Lays.n189 Tryz.prog Tryz.lays189_ren := {
 mixed := by kernel_rfl
 f125 := Tryz.func74.trans (congrArg some (by kernel_rfl))
 f128 := Tryz.func100.trans (congrArg some (by kernel_rfl))
 f129 := Tryz.func101.trans (congrArg some (by kernel_rfl))
 f189 := Tryz.func51.trans (congrArg some (by kernel_rfl))
 f215 := Tryz.func114.trans (congrArg some (by kernel_rfl))
 f216 := Tryz.func87.trans (congrArg some (by kernel_rfl))
 f257 := Tryz.func73.trans (congrArg some (by kernel_rfl))
 f294 := Tryz.func92.trans (congrArg some (by kernel_rfl))
 f295 := Tryz.func93.trans (congrArg some (by kernel_rfl))
 f296 := Tryz.func94.trans (congrArg some (by kernel_rfl))
 f297 := Tryz.func95.trans (congrArg some (by kernel_rfl))
 f298 := Tryz.func96.trans (congrArg some (by kernel_rfl))
 f299 := Tryz.func97.trans (congrArg some (by kernel_rfl))
 f300 := Tryz.func98.trans (congrArg some (by kernel_rfl))
 f301 := Tryz.func99.trans (congrArg some (by kernel_rfl))
 f328 := Tryz.func116.trans (congrArg some (by kernel_rfl))
 f329 := Tryz.func117.trans (congrArg some (by kernel_rfl))
 f330 := Tryz.func118.trans (congrArg some (by kernel_rfl))
 f331 := Tryz.func119.trans (congrArg some (by kernel_rfl))
 f332 := Tryz.func120.trans (congrArg some (by kernel_rfl))
 f343 := Tryz.func134.trans (congrArg some (by kernel_rfl))
 t0 := Tryz.underlying0
 a0 := Tryz.isAgg0
 z0 := Tryz.sizeOf0
 v0 := Tryz.zeroValue0
 t3 := Tryz.underlying3
 a3 := Tryz.isAgg3
 z3 := Tryz.sizeOf3
 v3 := Tryz.zeroValue3
 t4 := Tryz.underlying4
 a4 := Tryz.isAgg4
 z4 := Tryz.sizeOf4
 v4 := Tryz.zeroValue4
 t5 := Tryz.underlying5
 a5 := Tryz.isAgg5
 z5 := Tryz.sizeOf5
 v5 := Tryz.zeroValue5
 t9 := Tryz.underlying9
 a9 := Tryz.isAgg9
 z9 := Tryz.sizeOf9
 v9 := Tryz.zeroValue9
 t28 := Tryz.underlying29
 a28 := Tryz.isAgg29
 z28 := Tryz.sizeOf29
 v28 := Tryz.zeroValue29
 t46 := Tryz.underlying110
 a46 := Tryz.isAgg110
 z46 := Tryz.sizeOf110
 v46 := Tryz.zeroValue110
 t51 := Tryz.underlying128
 a51 := Tryz.isAgg128
 z51 := Tryz.sizeOf128
 v51 := Tryz.zeroValue128
 t53 := Tryz.underlying55
 a53 := Tryz.isAgg55
 z53 := Tryz.sizeOf55
 v53 := Tryz.zeroValue55
 t131 := Tryz.underlying96
 a131 := Tryz.isAgg96
 z131 := Tryz.sizeOf96
 v131 := Tryz.zeroValue96
 t182 := Tryz.underlying121
 a182 := Tryz.isAgg121
 z182 := Tryz.sizeOf121
 v182 := Tryz.zeroValue121
 t183 := Tryz.underlying122
 a183 := Tryz.isAgg122
 z183 := Tryz.sizeOf122
 v183 := Tryz.zeroValue122
 t218 := Tryz.underlying141
 a218 := Tryz.isAgg141
 z218 := Tryz.sizeOf141
 v218 := Tryz.zeroValue141
 t222 := Tryz.underlying145
 a222 := Tryz.isAgg145
 z222 := Tryz.sizeOf145
 v222 := Tryz.zeroValue145
 t228 := Tryz.underlying161
 a228 := Tryz.isAgg161
 z228 := Tryz.sizeOf161
 v228 := Tryz.zeroValue161
 t229 := Tryz.underlying162
 a229 := Tryz.isAgg162
 z229 := Tryz.sizeOf162
 v229 := Tryz.zeroValue162 }
open Go.Sort Go.RowKit in
theorem Tryz.slices_Sort_int (blk off cap : Nat) (zs : List Int) (w : World) (hH : Holds (Value.int .i64) w blk off zs.toArray) (hblk : blk < w.heap.size) (hsz : zs.length < 4611686018427387904) :
  Calls Tryz.prog 51 #[.slice (some ⟨blk, off, none⟩) zs.length cap] w fun e w' =>
   e = .returned (.tuple #[]) ∧ ∃ n os, w' = grow (putRow (Value.int .i64) (Sort.ahead w n) blk off (zs.mergeSort fun x y => decide (x ≤ y)).toArray) os := Any.slices_Sort_int Tryz.lays189 blk off cap zs w hH hblk hsz
def Tryz.lays105_ren : Go.Shelf.Ren := ⟨fun | 105 => 110 | 212 => 125 | 99 => 126 | 165 => 127 | 166 => 128 | 170 => 129 | 169 => 130 | 263 => 138 | 264 => 139 | 206 => 102 | 240 => 140 | 241 => 141 | 276 => 147 | 277 => 148 | n => n, fun | 9 => 9 | 3 => 3 | 4 => 4 | 20 => 20 | 0 => 0 | 46 => 110 | 109 => 153 | 5 => 5 | 72 => 157 | 76 => 91 | 51 => 128 | 146 => 170 | 53 => 55 | 148 => 172 | 70 => 155 | 37 => 131 | 75 => 90 | 127 => 165 | 164 => 178 | 80 => 158 | n => n, fun | n => n⟩
theorem Tryz.lays105 : Go.Proofs.Lays.n105 Tryz.prog Tryz.lays105_ren := {
 mixed := by kernel_rfl
 f99 := Tryz.func126.trans (congrArg some (by kernel_rfl))
 f105 := Tryz.func110.trans (congrArg some (by kernel_rfl))
 f165 := Tryz.func127.trans (congrArg some (by kernel_rfl))
 f166 := Tryz.func128.trans (congrArg some (by kernel_rfl))
 f169 := Tryz.func130.trans (congrArg some (by kernel_rfl))
 f170 := Tryz.func129.trans (congrArg some (by kernel_rfl))
 f206 := Tryz.func102.trans (congrArg some (by kernel_rfl))
 f212 := Tryz.func125.trans (congrArg some (by kernel_rfl))
 f240 := Tryz.func140.trans (congrArg some (by kernel_rfl))
 f241 := Tryz.func141.trans (congrArg some (by kernel_rfl))
 f263 := Tryz.func138.trans (congrArg some (by kernel_rfl))
 f264 := Tryz.func139.trans (congrArg some (by kernel_rfl))
 f276 := Tryz.func147.trans (congrArg some (by kernel_rfl))
 f277 := Tryz.func148.trans (congrArg some (by kernel_rfl))
 t0 := Tryz.underlying0
 a0 := Tryz.isAgg0
 z0 := Tryz.sizeOf0
 v0 := Tryz.zeroValue0
 t3 := Tryz.underlying3
 a3 := Tryz.isAgg3
 z3 := Tryz.sizeOf3
 v3 := Tryz.zeroValue3
 t4 := Tryz.underlying4
 a4 := Tryz.isAgg4
 z4 := Tryz.sizeOf4
 v4 := Tryz.zeroValue4
 t5 := Tryz.underlying5
 a5 := Tryz.isAgg5
 z5 := Tryz.sizeOf5
 v5 := Tryz.zeroValue5
 t9 := Tryz.underlying9
 a9 := Tryz.isAgg9
 z9 := Tryz.sizeOf9
 v9 := Tryz.zeroValue9
 t20 := Tryz.underlying20
 a20 := Tryz.isAgg20
 z20 := Tryz.sizeOf20
 v20 := Tryz.zeroValue20
 t37 := Tryz.underlying131
 a37 := Tryz.isAgg131
 z37 := Tryz.sizeOf131
 v37 := Tryz.zeroValue131
 t46 := Tryz.underlying110
 a46 := Tryz.isAgg110
 z46 := Tryz.sizeOf110
 v46 := Tryz.zeroValue110
 t51 := Tryz.underlying128
 a51 := Tryz.isAgg128
 z51 := Tryz.sizeOf128
 v51 := Tryz.zeroValue128
 t53 := Tryz.underlying55
 a53 := Tryz.isAgg55
 z53 := Tryz.sizeOf55
 v53 := Tryz.zeroValue55
 t70 := Tryz.underlying155
 a70 := Tryz.isAgg155
 z70 := Tryz.sizeOf155
 v70 := Tryz.zeroValue155
 t72 := Tryz.underlying157
 a72 := Tryz.isAgg157
 z72 := Tryz.sizeOf157
 v72 := Tryz.zeroValue157
 t75 := Tryz.underlying90
 a75 := Tryz.isAgg90
 z75 := Tryz.sizeOf90
 v75 := Tryz.zeroValue90
 t76 := Tryz.underlying91
 a76 := Tryz.isAgg91
 z76 := Tryz.sizeOf91
 v76 := Tryz.zeroValue91
 t109 := Tryz.underlying153
 a109 := Tryz.isAgg153
 z109 := Tryz.sizeOf153
 v109 := Tryz.zeroValue153
 t127 := Tryz.underlying165
 a127 := Tryz.isAgg165
 z127 := Tryz.sizeOf165
 v127 := Tryz.zeroValue165
 t146 := Tryz.underlying170
 a146 := Tryz.isAgg170
 z146 := Tryz.sizeOf170
 v146 := Tryz.zeroValue170
 t148 := Tryz.underlying172
 a148 := Tryz.isAgg172
 z148 := Tryz.sizeOf172
 v148 := Tryz.zeroValue172
 t164 := Tryz.underlying178
 a164 := Tryz.isAgg178
 z164 := Tryz.sizeOf178
 v164 := Tryz.zeroValue178 }
theorem Tryz.Builder_Extra_105 : Builder.Extra Tryz.prog Tryz.lays105_ren := {
 sizeBuilder := by kernel_rfl
 liesBuilder := by kernel_rfl
 t5 := Tryz.underlying5
 a5 := Tryz.isAgg5
 z5 := Tryz.sizeOf5
 v5 := Tryz.zeroValue5
 infoByte := by kernel_rfl
 cellsByte := by kernel_rfl
 sizeByte := by kernel_rfl
 neB5 := by decide }
open Go.RowKit Go.Lib in
theorem Tryz.strings_Repeat (s : ByteArray) (c : Nat) (w : World) (hc : c ≤ 9223372036854775807) (hlen : s.size * c ≤ 140737488355328) :
  Calls Tryz.prog 110 #[.string s, .int .i64 c] w fun e w' => e = .returned (.string ⟨(Lib.repeatL s.data.toList c).toArray⟩) ∧ Below w.heap.size w w' := Any.strings_Repeat Tryz.lays105 Tryz.Builder_Extra_105 s c w hc hlen
def Tryz.laysNm216_ren : Go.Shelf.Ren := ⟨fun | 16 => 80 | n => n, fun | 24 => 37 | 9 => 9 | 4 => 4 | n => n, fun | n => n⟩
theorem Tryz.laysNm216 : Go.Proofs.Lays2.n16 Tryz.prog Tryz.laysNm216_ren := {
 mixed := by kernel_rfl
 f16 := Tryz.func80.trans (congrArg some (by kernel_rfl))
 t4 := Tryz.underlying4
 a4 := Tryz.isAgg4
 z4 := Tryz.sizeOf4
 v4 := Tryz.zeroValue4
 t9 := Tryz.underlying9
 a9 := Tryz.isAgg9
 z9 := Tryz.sizeOf9
 v9 := Tryz.zeroValue9
 t24 := Tryz.underlying37
 a24 := Tryz.isAgg37
 z24 := Tryz.sizeOf37
 v24 := Tryz.zeroValue37
 i9 := by kernel_rfl }
open Go.RowKit Go.Lib in
theorem Tryz.slices_Clone_string (b off n c : Nat) (zs : List ByteArray) (w : World) (hz : n ≤ zs.length) (hbig : n * 16 ≤ 140737488355328) (hc : ∀ j, j < zs.length → w.cell? ⟨b, off + j, none⟩ = some (.string (zs.getD j ByteArray.empty))) :
  Calls Tryz.prog 80 #[.slice (some ⟨b, off, none⟩) n c] w fun e w' => ∃ v', e = .returned v' ∧ w'.ownsRow w.heap.size 9 1 v' n ((zs.take n).map (Value.string)) ∧ v' ≠ .slice none 0 0 ∧ Below w.heap.size w w' := Any.slices_Clone_string Tryz.laysNm216 b off n c zs w hz hbig hc
open Go.RowKit Go.Lib in
theorem Tryz.slices_Clone_string_nil (n c : Nat) (w : World) :
  Calls Tryz.prog 80 #[.slice none n c] w fun e w' => e = .returned (.slice none 0 0) ∧ w' = w := Any.slices_Clone_string_nil Tryz.laysNm216 n c w
open Go.RowKit Go.Lib in
theorem Tryz.slices_Clone_string_zero (a : Addr) (c : Nat) (w : World) :
  Calls Tryz.prog 80 #[.slice (some a) 0 c] w fun e w' => ∃ v', e = .returned v' ∧ w'.ownsRow w.heap.size 9 1 v' 0 [] ∧ v' ≠ .slice none 0 0 ∧ Below w.heap.size w w' := Any.slices_Clone_string_zero Tryz.laysNm216 a c w
def Tryz.laysNm220_ren : Go.Shelf.Ren := ⟨fun | 20 => 52 | n => n, fun | 22 => 29 | 3 => 3 | 4 => 4 | 0 => 0 | n => n, fun | n => n⟩
theorem Tryz.laysNm220 : Go.Proofs.Lays2.n20 Tryz.prog Tryz.laysNm220_ren := {
 mixed := by kernel_rfl
 f20 := Tryz.func52.trans (congrArg some (by kernel_rfl))
 t0 := Tryz.underlying0
 a0 := Tryz.isAgg0
 z0 := Tryz.sizeOf0
 v0 := Tryz.zeroValue0
 t3 := Tryz.underlying3
 a3 := Tryz.isAgg3
 z3 := Tryz.sizeOf3
 v3 := Tryz.zeroValue3
 t4 := Tryz.underlying4
 a4 := Tryz.isAgg4
 z4 := Tryz.sizeOf4
 v4 := Tryz.zeroValue4
 t22 := Tryz.underlying29
 a22 := Tryz.isAgg29
 z22 := Tryz.sizeOf29
 v22 := Tryz.zeroValue29
 i3 := by kernel_rfl }
open Go.RowKit Go.Lib Go.Sort in
theorem Tryz.slices_Compact_int (blk off cap : Nat) (zs : List Int) (w : World) (hH : Holds (Value.int .i64) w blk off zs.toArray) (hsz : zs.length ≤ 9223372036854775807) (hcap : zs.length ≤ cap) :
  Calls Tryz.prog 52 #[.slice (some ⟨blk, off, none⟩) zs.length cap] w fun e w' => e = .returned (.slice (some ⟨blk, off, none⟩) (Lib.compact zs).length cap) ∧ ∃ q, w' = putRow (Value.int .i64) (Sort.ahead w q) blk off (Lib.compact zs ++ List.replicate (zs.length - (Lib.compact zs).length) 0).toArray := Any.slices_Compact_int Tryz.laysNm220 blk off cap zs w hH hsz hcap
open Go.RowKit Go.Lib Go.Sort in
theorem Tryz.slices_Compact_int_empty (a : Option Addr) (cap : Nat) (w : World) :
  Calls Tryz.prog 52 #[.slice a 0 cap] w fun e w' => e = .returned (.slice a 0 cap) ∧ w' = w := Any.slices_Compact_int_empty Tryz.laysNm220 a cap w
def Tryz.laysNm225_ren : Go.Shelf.Ren := ⟨fun | 25 => 59 | 31 => 87 | 32 => 88 | 37 => 114 | n => n, fun | 22 => 29 | 3 => 3 | 4 => 4 | 40 => 110 | 0 => 0 | n => n, fun | n => n⟩
theorem Tryz.laysNm225 : Go.Proofs.Lays2.n25 Tryz.prog Tryz.laysNm225_ren := {
 mixed := by kernel_rfl
 f25 := Tryz.func59.trans (congrArg some (by kernel_rfl))
 f31 := Tryz.func87.trans (congrArg some (by kernel_rfl))
 f32 := Tryz.func88.trans (congrArg some (by kernel_rfl))
 f37 := Tryz.func114.trans (congrArg some (by kernel_rfl))
 t0 := Tryz.underlying0
 a0 := Tryz.isAgg0
 z0 := Tryz.sizeOf0
 v0 := Tryz.zeroValue0
 t3 := Tryz.underlying3
 a3 := Tryz.isAgg3
 z3 := Tryz.sizeOf3
 v3 := Tryz.zeroValue3
 t4 := Tryz.underlying4
 a4 := Tryz.isAgg4
 z4 := Tryz.sizeOf4
 v4 := Tryz.zeroValue4
 t22 := Tryz.underlying29
 a22 := Tryz.isAgg29
 z22 := Tryz.sizeOf29
 v22 := Tryz.zeroValue29
 t40 := Tryz.underlying110
 a40 := Tryz.isAgg110
 z40 := Tryz.sizeOf110
 v40 := Tryz.zeroValue110 }
open Go.RowKit Go.Lib in
theorem Tryz.slices_BinarySearch_int (b off n c : Nat) (zs : List Int) (x : Int) (w : World) (hz : n ≤ zs.length) (hbig : n < 4611686018427387904) (hc : ∀ j, j < zs.length → w.cell? ⟨b, off + j, none⟩ = some (.int .i64 (zs.getD j 0))) (hs : (zs.take n).Pairwise (· ≤ ·)) :
  Calls Tryz.prog 59 #[.slice (some ⟨b, off, none⟩) n c, .int .i64 x] w fun e w' => e = .returned (.tuple #[.int .i64 ((zs.take n).countP (· < x) : Nat), .bool ((zs.take n).contains x)]) ∧ ∃ q, w' = w.drewN q := Any.slices_BinarySearch_int Tryz.laysNm225 b off n c zs x w hz hbig hc hs
open Go.RowKit Go.Sort in
theorem Tryz.slices_Sort_int_none (p : Option Addr) (cap : Nat) (w : World) :
  Calls Tryz.prog 51 #[.slice p 0 cap] w fun e w' => e = .returned (.tuple #[]) ∧ w' = w := Any.slices_Sort_int_none Tryz.lays189 p cap w
open Go.RowKit Go.Lib in
theorem Tryz.slices_BinarySearch_int_empty (a : Option Addr) (c : Nat) (x : Int) (w : World) :
  Calls Tryz.prog 59 #[.slice a 0 c, .int .i64 x] w fun e w' => e = .returned (.tuple #[.int .i64 0, .bool false]) ∧ w' = w := Any.slices_BinarySearch_int_empty Tryz.laysNm225 a c x w
end Go.Proofs
end
section
/-! Rows of whole numbers. -/
namespace Lv
open Go Go.RowKit Go.Proofs
theorem win_one {C : List Value} {k : Nat} {v : Value} (h : C[k]? = some v) : Lk.win C k 1 = [v] := by
 unfold Lk.win
 rw [List.getElem?_eq_some_iff] at h
 obtain ⟨hk, rfl⟩ := h
 rw [List.drop_eq_getElem_cons hk]
 rfl
theorem win_one_inv {C : List Value} {k : Nat} {v : Value} (h : Lk.win C k 1 = [v]) : C[k]? = some v := by
 unfold Lk.win at h
 rcases Nat.lt_or_ge k C.length with hk | hk
 ·rw [List.drop_eq_getElem_cons hk] at h
  rw [List.getElem?_eq_getElem hk]
  have h' : C[k] :: ((C.drop (k + 1)).take 0) = [v] := h
  simpa using h'
 ·rw [List.drop_eq_nil_of_le hk] at h
  simp at h
def IntsAt (w : World) (l : List Int) (v : Value) (bb : Option Nat) : Prop := match bb with
 | none => v = .slice none 0 0 ∧ l = []
 | some b => ∃ (off cap : Nat) (C : Array Value) (e : TypeId) (f : Nat × Nat), v = .slice (some ⟨b, off, none⟩) l.length cap ∧ l.length ≤ cap ∧ off + cap ≤ C.size ∧ cap ≤ 9223372036854775807 ∧ w.heap[b]? = some (.cells C e f) ∧ Lk.thaw C.size f ∧
   ∀ (i : Nat) (y : Int), l[i]? = some y → C[off + i]? = some (Value.int .i64 y)
section
variable {τ : Lk.Ax} {S Sb : Nat → Prop} {w : World}
theorem IntsAt.keep {w w' : World} {l : List Int} {v : Value} {bb : Option Nat} (h : IntsAt w l v bb) (hk : ∀ k ∈ bb.toList, w'.heap[k]? = w.heap[k]?) : IntsAt w' l v bb := by
 cases bb with
 | none => exact h
 | some b =>
  obtain ⟨off, cap, C, e, f, h1, h2, h3, h4, h5, h6, h7⟩ := h
  exact ⟨off, cap, C, e, f, h1, h2, h3, h4, by rw [hk b (by simp)]; exact h5, h6, h7⟩
theorem IntsAt.slice {l : List Int} {v : Value} {bb : Option Nat} (h : IntsAt w l v bb) : ∃ a c, v = .slice a l.length c := by
 cases bb with
 | none => obtain ⟨rfl, rfl⟩ := h; exact ⟨_, _, rfl⟩
 | some b => obtain ⟨off, cap, C, e, f, h1, _⟩ := h; exact ⟨_, _, h1⟩
theorem IntsAt.hold {l : List Int} {v : Value} {bb : Option Nat} (h : IntsAt w l v bb) (hl : ∀ s ∈ l, Lk.inR .i64 s) : ∃ sh : Lk.Sh (.l (.i .i64)), v = sh.hd ∧ Lk.hold τ S Sb w (.l (.i .i64)) (.o .r) l sh ∧ Lk.bl (.l (.i .i64)) (.o .r) l sh = bb.toList := by
 cases bb with
 | none =>
  obtain ⟨rfl, rfl⟩ := h
  exact ⟨⟨.slice none 0 0, 0, 0, [], 0, (0, 0), []⟩, rfl, .inl ⟨rfl, rfl⟩, rfl⟩
 | some b =>
  obtain ⟨off, cap, C, e, f, rfl, h2, h3, h4, h5, h6, h7⟩ := h
  obtain ⟨sh, g1, g2, g3⟩ := Lk.flat_row (τ := τ) (S := S) (Sb := Sb) (w := w) (t := .i .i64) (m := .r) (x := l) (b := b) (off := off) (cap := cap) (C := C.toList) (e := e) (f := f) rfl
   (by simpa using h5) (by simpa using h6) h2 h4 (by simp [Lk.csz]; omega) (fun i y hy => by
    refine ⟨?_, hl y (List.mem_of_getElem? hy)⟩
    show Lk.win C.toList (off + i * 1) 1 = [Value.int .i64 y]
    rw [Nat.mul_one]
    exact win_one (by simpa using h7 i y hy))
  exact ⟨sh, g3.symm, g1, by rw [g2]; rfl⟩
theorem ints_bl {l : List Int} {sh : Lk.Sh (.l (.i .i64))} (h : ∃ a n c, sh.hd = .slice (some a) n c) : Lk.bl (.l (.i .i64)) (.o .r) l sh = [sh.blk] := by
 obtain ⟨a, n, c, h⟩ := h
 simp only [Lk.bl, h]
 congr 1
 rw [List.flatten_eq_nil_iff]
 intro k hk
 obtain ⟨i, hi⟩ := List.mem_iff_getElem?.1 hk
 rw [List.getElem?_zipWith] at hi
 split at hi
 ·cases hi; rfl
 ·cases hi
theorem ints_of {l : List Int} {sh : Lk.Sh (.l (.i .i64))} (h : Lk.hold τ S Sb w (.l (.i .i64)) (.o .r) l sh) : ∃ bb, IntsAt w l sh.hd bb ∧ Lk.bl (.l (.i .i64)) (.o .r) l sh = bb.toList := by
 simp only [Lk.hold] at h
 rcases h with ⟨h1, rfl⟩ | ⟨cap, h1, h2, h3, h4, h5, h6, h7, h8⟩
 ·exact ⟨none, ⟨h1, rfl⟩, by simp [Lk.bl, h1]⟩
 ·refine ⟨some sh.blk, ⟨sh.off, cap, sh.C.toArray, sh.ety, sh.frz, h1, h3, by simp [Lk.csz] at h5; simpa using h5, h4, h6, by simpa using h7, fun i y hy => ?_⟩, by rw [ints_bl ⟨_, _, _, h1⟩]; rfl⟩
  have hi : i < sh.es.length := by
   rw [h2]
   exact (List.getElem?_eq_some_iff.1 hy).1
  have := (h8 i y _ hy (List.getElem?_eq_getElem hi)).1
  have := win_one_inv (v := .int .i64 y) (by simpa [Lk.csz, Lk.cells, Lk.strV] using this)
  simpa using this
theorem info3 : ∃ (i : TypeInfo) (z : Value), Tryz.prog.info? 3 = some i ∧ i.size = 1 ∧ i.bytes = 8 ∧ i.zero = some z ∧ z.cells.size = 1 := by
 have h : (match Tryz.prog.info? 3 with | some i => (match i.zero with | some z => Nat.beq i.size 1 && Nat.beq i.bytes 8 && Nat.beq z.cells.size 1 | none => false) | none => false) = true := by kernel_rfl
 split at h
 ·rename_i i hi
  split at h
  ·rename_i z hz
   simp only [Bool.and_eq_true, Nat.beq_eq] at h
   exact ⟨i, z, hi, h.1.1, h.1.2, hz, h.2⟩
  ·cases h
 ·cases h
theorem append_ints (τ : Lk.Ax) {l : List Int} {v : Value} {bb : Option Nat} (h : IntsAt w l v bb) (hl : ∀ s ∈ l, Lk.inR .i64 s) {y : List Int} {vs : Value} (hsrc : Lk.Rd τ (fun _ => True) w (.l (.i .i64)) y [vs]) (hb : l.length ≤ 1073741824) (hb2 : y.length ≤ 1073741824) (oT : TypeId) :
  ∃ w' v' bb', (Builtin.append_ #[29, 29] oT #[v, vs]).run Tryz.prog w = .ok v' w' ∧ IntsAt w' (l ++ y) v' bb' ∧
   (bb' = bb ∧ Lk.Ext bb.toList w w' ∨ Lk.Ext [] w w' ∧ ∃ n, bb' = some n ∧ w.heap.size ≤ n ∧ n < w'.heap.size) := by
 obtain ⟨sh, rfl, h1, h2⟩ := h.hold (τ := τ) (S := fun _ => True) (Sb := fun _ => True) hl
 obtain ⟨ws, f1, f2, f3, f4⟩ := Lk.src_cells (P := Tryz.prog) hsrc y.length (Nat.le_refl _)
 obtain ⟨i3x, z, i1, i2, i3, i4, i5⟩ := info3
 obtain ⟨w', d', k1, k2, k3, k4⟩ := Lk.run_append (P := Tryz.prog) (τ := τ) (w := w) (t := .i .i64) (m := .r) (x := l) (sh := sh) (T := 29) (T2 := 29) (e := 3) (i := i3x) (z := z) (d2 := .slice 3) (vs := ws) (y := y) (vb := sh.hd) (vsrc := vs) (S := fun _ => True) (Sb := fun _ => True)
  rfl rfl h1 rfl Tryz.underlying29 i1 i2 i4 i5 Tryz.underlying29 (fun k => by simp) f4 f1 f2 (fun i u hu => f3 i u (List.getElem?_eq_some_iff.1 hu).1 hu) (by rw [i3]; omega) (by omega) oT
 obtain ⟨t, m, x, sh'⟩ := d'
 simp only [Lk.DV.av, Lk.AV.mk.injEq] at k2
 obtain ⟨e1, e2, k2⟩ := k2
 subst e1
 subst e2
 obtain rfl : x = l ++ y := eq_of_heq k2
 obtain ⟨bb', g1, g2⟩ := ints_of (show Lk.hold τ _ _ w' (.l (.i .i64)) (.o .r) (l ++ y) sh' from k3)
 refine ⟨w', sh'.hd, bb', k1, g1, ?_⟩
 have e1 : Lk.DV.bl ⟨.l (.i .i64), .o .r, l ++ y, sh'⟩ = bb'.toList := g2
 rw [e1, h2] at k4
 rcases k4 with ⟨k, kx⟩ | ⟨kx, n, k, k5, k6⟩
 ·refine .inl ⟨?_, kx⟩
  cases bb <;> cases bb' <;> simp_all
 ·refine .inr ⟨kx, n, ?_, k5, k6⟩
  cases bb' <;> simp_all
end
theorem sort_ints {w : World} {l : List Int} {v : Value} {bb : Option Nat} (h : IntsAt w l v bb) (hl : l.length ≤ 1073741824) :
  Calls Tryz.prog 51 #[v] w fun e w' => e = .returned (.tuple #[]) ∧ IntsAt w' (l.mergeSort fun x y => decide (x ≤ y)) v bb ∧ Lk.Ext bb.toList w w' := by
 cases bb with
 | none =>
  obtain ⟨rfl, rfl⟩ := h
  refine (Tryz.slices_Sort_int_none none 0 w).mono ?_
  rintro e w' ⟨rfl, rfl⟩
  exact ⟨rfl, ⟨rfl, by simp⟩, ext_refl _ _⟩
 | some b =>
  obtain ⟨off, cap, C, e, f, rfl, h2, h3, h4, h5, h6, h7⟩ := h
  have hb := Lk.lt_of_some h5
  have hH : Go.Sort.Holds (Value.int .i64) w b off l.toArray := by
   intro j hj
   have hj' : j < l.length := by simpa using hj
   have hc := h7 j _ (List.getElem?_eq_getElem hj')
   refine ⟨?_, ?_⟩
   ·unfold World.cell?
    simp only [h5]
    rw [show (l.toArray)[j]! = l[j] by simp [hj']]
    exact hc
   ·unfold World.frozen?
    simp only [h5]
    have := h6 (off + j) (by omega)
    simp
    intro h1
    exact Nat.le_of_not_lt fun h2 => this ⟨h1, h2⟩
  refine (Tryz.slices_Sort_int b off cap l w hH hb (by omega)).mono ?_
  rintro e' w' ⟨rfl, n, os, rfl⟩
  have hs : (l.mergeSort fun x y => decide (x ≤ y)).length = l.length := List.length_mergeSort _
  have hheap : (Go.Sort.putRow (Value.int .i64) (Go.Sort.ahead w n) b off (l.mergeSort fun x y => decide (x ≤ y)).toArray).heap[b]? = some (.cells (Go.Sort.putCells (Value.int .i64) off (l.mergeSort fun x y => decide (x ≤ y)).toArray C) e f) := by
   simp [Go.Sort.putRow, Go.Sort.mapBlock, Go.Sort.ahead, Array.getElem?_modify, h5, Go.Sort.onCells]
  have hsz : (Go.Sort.putRow (Value.int .i64) (Go.Sort.ahead w n) b off (l.mergeSort fun x y => decide (x ≤ y)).toArray).heap.size = w.heap.size := by
   simp [Go.Sort.putRow, Go.Sort.mapBlock, Go.Sort.ahead]
  have hpc : (Go.Sort.putCells (Value.int .i64) off (l.mergeSort fun x y => decide (x ≤ y)).toArray C).size = C.size := by simp [Go.Sort.putCells]
  refine ⟨rfl, ⟨off, cap, Go.Sort.putCells (Value.int .i64) off (l.mergeSort fun x y => decide (x ≤ y)).toArray C, e, f, by rw [hs], by rw [hs]; exact h2, by rw [hpc]; exact h3, h4, ?_, by rw [hpc]; exact h6, ?_⟩, ?_⟩
  ·rw [Go.Sort.heap_grow_old _ _ (by rw [hsz]; exact hb)]
   exact hheap
  ·intro i y hy
   have hi : i < (l.mergeSort fun x y => decide (x ≤ y)).length := (List.getElem?_eq_some_iff.1 hy).1
   have hi2 : off + i < C.size := by omega
   simp only [Go.Sort.putCells, Array.getElem?_mapIdx, Array.getElem?_eq_getElem hi2, Option.map_some]
   rw [if_pos ⟨by omega, by simp; omega⟩, show off + i - off = i by omega]
   have : ((l.mergeSort fun x y => decide (x ≤ y)).toArray)[i]! = y := by
    simp [hy]
   rw [this]
  ·refine ⟨rfl, rfl, rfl, by rw [Go.Sort.size_grow, hsz]; omega, fun k hk hn => ?_⟩
   have hne : b ≠ k := fun e => hn (by simp [e])
   rw [Go.Sort.heap_grow_old _ _ (by rw [hsz]; exact hk)]
   simp [Go.Sort.putRow, Go.Sort.mapBlock, Go.Sort.ahead, Array.getElem?_modify, hne]
theorem compact_le (l : List Int) : (Lib.compact l).length ≤ l.length := by
 unfold Lib.compact Lib.compactUpTo
 rw [List.length_map]
 exact Nat.le_trans (List.length_filter_le _ _) (by simp)
theorem compact_ints {w : World} {l : List Int} {v : Value} {bb : Option Nat} (h : IntsAt w l v bb) (hl : l.length ≤ 1073741824) :
  Calls Tryz.prog 52 #[v] w fun e w' => ∃ v', e = .returned v' ∧ IntsAt w' (Lib.compact l) v' bb ∧ Lk.Ext bb.toList w w' := by
 cases bb with
 | none =>
  obtain ⟨rfl, rfl⟩ := h
  refine (Tryz.slices_Compact_int_empty none 0 w).mono ?_
  rintro e w' ⟨rfl, rfl⟩
  exact ⟨_, rfl, ⟨rfl, rfl⟩, ext_refl _ _⟩
 | some b =>
  obtain ⟨off, cap, C, e, f, rfl, h2, h3, h4, h5, h6, h7⟩ := h
  have hb := Lk.lt_of_some h5
  have hH : Go.Sort.Holds (Value.int .i64) w b off l.toArray := by
   intro j hj
   have hj' : j < l.length := by simpa using hj
   have hc := h7 j _ (List.getElem?_eq_getElem hj')
   refine ⟨?_, ?_⟩
   ·unfold World.cell?
    simp only [h5]
    rw [show (l.toArray)[j]! = l[j] by simp [hj']]
    exact hc
   ·unfold World.frozen?
    simp only [h5]
    have := h6 (off + j) (by omega)
    simp
    intro h1
    exact Nat.le_of_not_lt fun h2 => this ⟨h1, h2⟩
  refine (Tryz.slices_Compact_int b off cap l w hH (by omega) h2).mono ?_
  rintro e' w' ⟨rfl, n, rfl⟩
  have hle := compact_le l
  generalize hR : (Lib.compact l ++ List.replicate (l.length - (Lib.compact l).length) 0) = R
  have hRl : R.length = l.length := by rw [← hR]; simp; omega
  have hRi : ∀ i y, (Lib.compact l)[i]? = some y → R[i]? = some y := fun i y hy => by
   rw [← hR, List.getElem?_append_left (List.getElem?_eq_some_iff.1 hy).1]; exact hy
  have hheap : (Go.Sort.putRow (Value.int .i64) (Go.Sort.ahead w n) b off R.toArray).heap[b]? = some (.cells (Go.Sort.putCells (Value.int .i64) off R.toArray C) e f) := by
   simp [Go.Sort.putRow, Go.Sort.mapBlock, Go.Sort.ahead, Array.getElem?_modify, h5, Go.Sort.onCells]
  have hsz : (Go.Sort.putRow (Value.int .i64) (Go.Sort.ahead w n) b off R.toArray).heap.size = w.heap.size := by
   simp [Go.Sort.putRow, Go.Sort.mapBlock, Go.Sort.ahead]
  have hpc : (Go.Sort.putCells (Value.int .i64) off R.toArray C).size = C.size := by simp [Go.Sort.putCells]
  refine ⟨_, rfl, ⟨off, cap, Go.Sort.putCells (Value.int .i64) off R.toArray C, e, f, rfl, by omega, by rw [hpc]; exact h3, h4, hheap, by rw [hpc]; exact h6, ?_⟩, ?_⟩
  ·intro i y hy
   have hi : i < (Lib.compact l).length := (List.getElem?_eq_some_iff.1 hy).1
   have hi2 : off + i < C.size := by omega
   simp only [Go.Sort.putCells, Array.getElem?_mapIdx, Array.getElem?_eq_getElem hi2, Option.map_some]
   rw [if_pos ⟨by omega, by simp; omega⟩, show off + i - off = i by omega]
   have : (R.toArray)[i]! = y := by
    have := hRi i y hy
    simp [this]
   rw [this]
  ·refine ⟨rfl, rfl, rfl, by rw [hsz]; omega, fun k hk hn => ?_⟩
   have hne : b ≠ k := fun e => hn (by simp [e])
   simp [Go.Sort.putRow, Go.Sort.mapBlock, Go.Sort.ahead, Array.getElem?_modify, hne]
theorem ints_rng {τ : Lk.Ax} {S Sb : Nat → Prop} {w : World} {l : List Int} {sh : Lk.Sh (.l (.i .i64))} (h : Lk.hold τ S Sb w (.l (.i .i64)) (.o .r) l sh) : ∀ y ∈ l, Lk.inR .i64 y := by
 rcases h with ⟨_, rfl⟩ | ⟨cap, h1, h2, h3, h4, h5, h6, h7, h8⟩
 ·simp
 ·intro y hy
  obtain ⟨i, hi⟩ := List.getElem?_of_mem hy
  have hl : i < sh.es.length := by rw [h2]; exact (List.getElem?_eq_some_iff.1 hi).1
  exact (h8 i y _ hi (List.getElem?_eq_getElem hl)).2.2
theorem ok_sort {τ : Lk.Ax} {Kw : Lk.KW} : Lk.FnOk (τ := τ) (Kw := Kw) Tryz.prog 51 ⟨[(.l (.i .i64), .o .r)], [(.l (.i .i64), .o .r)], 0⟩ (fun x => bif Nat.ble (List.length x.1) 1073741824 then some ((List.mergeSort (α := Int) x.1 fun x y => decide (x ≤ y)), ()) else none) := by
 rintro ⟨x, _⟩ res hx w S Sb ads hK hs ha hargs
 obtain ⟨sh, ads', rfl, ha1⟩ := ads_cons ha
 obtain rfl := ads_nil ha1
 have hx : (bif Nat.ble (List.length (α := Int) x) 1073741824 then some (List.mergeSort (α := Int) x fun x y => decide (x ≤ y), ()) else none) = some res := hx
 cases hb : Nat.ble (List.length (α := Int) x) 1073741824 with
 | false => rw [hb] at hx; cases hx
 | true =>
  rw [hb] at hx
  cases hx
  rw [Nat.ble_eq] at hb
  have hh : Lk.hold τ S (fun b => S b ∨ Sb b) w (.l (.i .i64)) (.o .r) x sh := hargs.hold _ (List.mem_cons_self ..)
  obtain ⟨bb, hI, hbl⟩ := ints_of hh
  have hR := ints_rng hh
  have hB : Lk.blsOf [(⟨.l (.i .i64), .o .r, x, sh⟩ : Lk.DV)] = bb.toList := by
   rw [Lk.blsOf_cons]
   show Lk.bl (.l (.i .i64)) (.o .r) x sh ++ [] = _
   rw [List.append_nil, hbl]
  refine (show Calls Tryz.prog 51 #[sh.hd] w _ from ?_)
  refine (sort_ints hI hb).mono ?_
  rintro e w' ⟨rfl, hI', hE⟩
  rw [hB]
  refine ⟨_, rfl, hE, ?_⟩
  have hR' : ∀ y ∈ (List.mergeSort (α := Int) x fun x y => decide (x ≤ y)), Lk.inR .i64 y := fun y hy => hR y (List.mem_mergeSort.1 hy)
  obtain ⟨sh', g1, g2, g3⟩ := hI'.hold (τ := τ) (S := S) (Sb := S) hR'
  have hB' : Lk.blsOf [(⟨.l (.i .i64), .o .r, (List.mergeSort (α := Int) x fun x y => decide (x ≤ y)), sh'⟩ : Lk.DV)] = bb.toList := by
   rw [Lk.blsOf_cons]
   show Lk.bl (.l (.i .i64)) (.o .r) _ sh' ++ [] = _
   rw [List.append_nil, g3]
  refine ⟨⟨[⟨.l (.i .i64), .o .r, _, sh'⟩], S, rfl, fun _ h => h, fun _ h => .inl h, fun b hb => Nat.lt_of_lt_of_le (hs b (.inl hb)) hE.size, ?_, ?_, ?_, rfl, ?_⟩⟩
  ·intro d hd
   obtain rfl := List.mem_singleton.1 hd
   exact g2
  ·rw [hB']
   cases bb <;> simp
  ·rw [hB']
   intro b hb'
   have := hargs.own b (by rw [hB]; exact hb')
   exact ⟨.inl hb', Nat.lt_of_lt_of_le this.1 hE.size, fun h => this.2 (.inl h)⟩
  ·show [Lk.DV.val τ _] = [Lk.DV.val τ _]
   show [sh'.hd] = [sh.hd]
   rw [g1]
end Lv
end
section
/-! What L is told of version.Valid. -/
namespace Lv
open Go Go.RowKit Go.Proofs
theorem res_bool {τ : Lk.Ax} {w w' : World} {S Sb : Nat → Prop} {B : List Nat} {ads : List Lk.DV} {b : Bool} (hS : ∀ b, S b ∨ Sb b → b < w.heap.size) (hsz : w.heap.size ≤ w'.heap.size) (ha : (ads.filter fun d => Lk.isO d.m) = []) :
  Lk.ResAre (τ := τ) w w' S B [⟨.b, .r, b⟩] 1 ads (.bool b) :=
 ⟨⟨[⟨.b, .r, b, ()⟩], S, rfl, fun _ h => h, fun _ h => .inl h, fun b hb => Nat.lt_of_lt_of_le (hS b (.inl hb)) hsz, by
  intro d hd
  obtain rfl := List.mem_singleton.1 hd
  exact rfl, by simp [Lk.blsOf, Lk.DV.bl, Lk.bl], by simp [Lk.blsOf, Lk.DV.bl, Lk.bl], rfl, by rw [ha]; rfl⟩⟩
theorem ok_valid {τ : Lk.Ax} {Kw : Lk.KW} : Lk.FnOk (τ := τ) (Kw := Kw) Tryz.prog 14 ⟨[(LvT, .b)], [(.b, .r)], 1⟩ (fun x => some (validM x.1, ())) := by
 rintro ⟨x, _⟩ res hx w S Sb ads hK hs ha hargs
 obtain ⟨sh, ads', rfl, ha1⟩ := ads_cons ha
 obtain rfl := ads_nil ha1
 cases hx
 have hh : Lk.Rd τ (fun b => S b ∨ Sb b) w LvT x [sh.hd] := hargs.hold _ (List.mem_cons_self ..)
 refine (show Calls Tryz.prog 14 #[sh.hd] w _ from ?_)
 refine (valid_any w x sh.hd hh hs).mono ?_
 rintro e w' ⟨rfl, hE⟩
 exact ⟨_, rfl, ext_more hE (by simp), res_bool hs hE.size rfl⟩
end Lv
end
section
namespace LvG1
open Go Lk
noncomputable def tys : BT (Ty × Md) := (.node (.node (.node (.node (.node (.node (.node .leaf 1 (.z .fn, .r) .leaf) 2 (.i .i64, .r) .leaf) 3 (.i .i64, .r) (.node .leaf 4 (.b, .r) .leaf)) 5 (.by, .r) (.node (.node .leaf 6 (.by, .r) .leaf) 7 (.c (.i .i64) (.c (.i .i64) (.c (.b) (.c (.by) (.u)))), (.q .r (.q .r (.q .r (.q .r .r))))) (.node .leaf 8 (.c (.i .i64) (.c (.i .i64) (.c (.b) (.c (.by) (.u)))), (.q .r (.q .r (.q .r (.q .r .r))))) .leaf))) 9 (.s, .r) (.node (.node (.node .leaf 10 (.s, .r) .leaf) 11 (.s, .r) (.node .leaf 12 (.i .u64, .r) .leaf)) 13 (.c (.s) (.c (.i .u64) (.u)), (.q .r (.q .r .r))) (.node (.node .leaf 14 (.c (.s) (.c (.i .u64) (.u)), (.q .r (.q .r .r))) .leaf) 15 (.p (.c (.p (.c (.i .u64) (.c (.i .u64) (.c (.i .u32) (.c (.by) (.c (.by) (.c (.by) (.c (.by) (.c (.z .fn) (.c (.p (.by)) (.c (.i .i32) (.c (.i .i32) (.u))))))))))))) (.c (.p (.c (.i .u64) (.c (.i .u64) (.c (.i .u32) (.c (.by) (.c (.by) (.c (.by) (.c (.by) (.c (.z .fn) (.c (.p (.by)) (.c (.i .i32) (.c (.i .i32) (.u))))))))))))) (.c (.p (.c (.i .u64) (.c (.i .u64) (.c (.i .u32) (.c (.by) (.c (.by) (.c (.by) (.c (.by) (.c (.z .fn) (.c (.p (.by)) (.c (.i .i32) (.c (.i .i32) (.u))))))))))))) (.c (.s) (.u))))), (.o (.q (.o (.q .r (.q .r (.q .r (.q .r (.q .r (.q .r (.q .r (.q .r (.q (.o .r) (.q .r (.q .r .r)))))))))))) (.q (.o (.q .r (.q .r (.q .r (.q .r (.q .r (.q .r (.q .r (.q .r (.q (.o .r) (.q .r (.q .r .r)))))))))))) (.q (.o (.q .r (.q .r (.q .r (.q .r (.q .r (.q .r (.q .r (.q .r (.q (.o .r) (.q .r (.q .r .r)))))))))))) (.q .r .r)))))) (.node .leaf 16 (.z .pt, .r) .leaf)))) 17 (.p (.c (.i .u64) (.c (.i .u64) (.c (.i .u32) (.c (.by) (.c (.by) (.c (.by) (.c (.by) (.c (.z .fn) (.c (.p (.by)) (.c (.i .i32) (.c (.i .i32) (.u)))))))))))), (.o (.q .r (.q .r (.q .r (.q .r (.q .r (.q .r (.q .r (.q .r (.q (.o .r) (.q .r (.q .r .r))))))))))))) (.node (.node (.node (.node (.node .leaf 18 (.c (.p (.c (.i .u64) (.c (.i .u64) (.c (.i .u32) (.c (.by) (.c (.by) (.c (.by) (.c (.by) (.c (.z .fn) (.c (.p (.by)) (.c (.i .i32) (.c (.i .i32) (.u))))))))))))) (.u), (.q (.o (.q .r (.q .r (.q .r (.q .r (.q .r (.q .r (.q .r (.q .r (.q (.o .r) (.q .r (.q .r .r)))))))))))) .r)) .leaf) 19 (.c (.p (.c (.i .u64) (.c (.i .u64) (.c (.i .u32) (.c (.by) (.c (.by) (.c (.by) (.c (.by) (.c (.z .fn) (.c (.p (.by)) (.c (.i .i32) (.c (.i .i32) (.u))))))))))))) (.u), (.q (.o (.q .r (.q .r (.q .r (.q .r (.q .r (.q .r (.q .r (.q .r (.q (.o .r) (.q .r (.q .r .r)))))))))))) .r)) .leaf) 20 (.e, .r) (.node .leaf 21 (.i .i32, .r) .leaf)) 22 (.l (.l TyF), (.o (.o MdF))) (.node (.node .leaf 23 (.l (.l TyF), (.o (.o MdF))) .leaf) 24 (.l TyA, (.o (.q .r (.q .r (.q .r (.q (.o (.o MdF)) (.q (.o .r) .r))))))) (.node .leaf 25 (.z .fn, .r) .leaf))) 26 (.p (.c (.z .mp) (.c (.i .i64) (.c (.z .mp) (.u)))), (.o (.q .r (.q .r (.q .r .r))))) (.node (.node (.node .leaf 27 (.z .fn, .r) .leaf) 28 (.l TyL, (.o (.o (.o MdF)))) (.node .leaf 29 (.l (.i .i64), (.o .r)) .leaf)) 30 (.c (.l TyL) (.c (.l (.i .i64)) (.c (.l (.i .i64)) (.u))), (.q (.o (.o (.o MdF))) (.q (.o .r) (.q (.o .r) .r)))) (.node (.node .leaf 31 (.c (.l TyL) (.c (.l (.i .i64)) (.c (.l (.i .i64)) (.u))), (.q (.o (.o (.o MdF))) (.q (.o .r) (.q (.o .r) .r)))) .leaf) 33 (.z .fn, .r) (.node .leaf 34 (.z .fn, .r) .leaf))))) 35 (.z .fn, .r) (.node (.node (.node (.node (.node (.node .leaf 36 (.z .fn, .r) .leaf) 37 (.l (.s), (.o .r)) .leaf) 38 (.c (.i .i64) (.c (.i .i64) (.c (.i .i64) (.c TyL (.c (.l (.s)) (.u))))), (.q .r (.q .r (.q .r (.q (.o (.o MdF)) (.q (.o .r) .r)))))) (.node .leaf 39 (.c (.i .i64) (.c (.i .i64) (.c (.i .i64) (.c TyL (.c (.l (.s)) (.u))))), (.q .r (.q .r (.q .r (.q (.o (.o MdF)) (.q (.o .r) .r)))))) .leaf)) 40 (.z .fn, .r) (.node (.node .leaf 41 (.z .fn, .r) .leaf) 42 (.z .fn, .r) (.node .leaf 43 (.z .fn, .r) .leaf))) 45 (.z .fn, .r) (.node (.node (.node .leaf 46 (.z .fn, .r) .leaf) 47 (.i .i64, .r) (.node .leaf 48 (.z .fn, .r) .leaf)) 49 (.z .fn, .r) (.node (.node .leaf 50 (.z .fn, .r) .leaf) 51 (.z .fn, .r) (.node .leaf 52 (.z .fn, .r) .leaf)))) 54 (.z .fn, .r) (.node (.node (.node (.node (.node .leaf 55 (.i .u64, .r) .leaf) 56 (.c (.i .i64) (.c (.i .i64) (.c (.s) (.c (.s) (.c (.i .u64) (.c (.i .u64) (.u)))))), MdF) .leaf) 57 (.c (.i .i64) (.c (.i .i64) (.c (.s) (.c (.s) (.c (.i .u64) (.c (.i .u64) (.u)))))), MdF) (.node .leaf 59 (.z .fn, .r) .leaf)) 60 (.z .fn, .r) (.node (.node .leaf 61 (.z .fn, .r) .leaf) 62 (.z .fn, .r) (.node .leaf 64 (.z .fn, .r) .leaf))) 65 (.z .fn, .r) (.node (.node (.node .leaf 66 (.l TyF, (.o MdF)) .leaf) 67 (.c TyL (.c (.i .i64) (.u)), (.q (.o (.o MdF)) (.q .r .r))) (.node .leaf 68 (.c TyL (.c (.i .i64) (.u)), (.q (.o (.o MdF)) (.q .r .r))) .leaf)) 69 (.z .mp, .r) (.node (.node .leaf 70 (.z .mp, .r) .leaf) 71 (.c (.z .mp) (.c (.i .i64) (.c (.z .mp) (.u))), (.q .r (.q .r (.q .r .r)))) (.node .leaf 72 (.c (.z .mp) (.c (.i .i64) (.c (.z .mp) (.u))), (.q .r (.q .r (.q .r .r)))) .leaf))))))
noncomputable def sigs : BT Sig := (.node (.node .leaf 14 ⟨[(.l (.l TyF), .b)], [(.b, .r)], 1⟩ .leaf) 23 ⟨[(.l (.l TyF), .b)], [(.l (.i .i64), (.o .r))], 1⟩ (.node .leaf 51 ⟨[(.l (.i .i64), (.o .r))], [(.l (.i .i64), (.o .r))], 0⟩ .leaf))
noncomputable def bodies : BT Func := (.node .leaf 23 Go.Proofs.Tryz.f23 .leaf)
noncomputable def exts : BT Func := (.node (.node .leaf 14 Go.Proofs.Tryz.f14 .leaf) 51 Go.Proofs.Tryz.f51 .leaf)
noncomputable def lives : BT (List Nat) := (.node (.node .leaf 94213 [3, 11, 12, 13] .leaf) 94216 [3, 11, 12, 13, 17, 18, 19] .leaf)
noncomputable def ext14 : Nat → Tup [(Lv.LvT, .b)] → Option (Tup [(.b, .r)]) := fun _ x => some (Lv.validM x.1, ())
noncomputable def ext51 : Nat → Tup [(.l (.i .i64), .o .r)] → Option (Tup [(.l (.i .i64), .o .r)]) := fun _ x => bif Nat.ble (List.length x.1) 1073741824 then some ((List.mergeSort (α := Int) x.1 fun x y => decide (x ≤ y)), ()) else none
noncomputable def ext : (g : FuncId) → Option (Nat → Tup ((sigs.get g).getD ⟨[], [], 0⟩).ps → Option (Tup ((sigs.get g).getD ⟨[], [], 0⟩).rs))
 | 14 => some ext14
 | 51 => some ext51
 | _ => none
noncomputable def lims : BT Nat := (.node (.node .leaf 22 1073741824 .leaf) 29 1073741824 (.node .leaf 66 1073741824 .leaf))
noncomputable def G : Prg where
 ty T := tys.get T
 lim T := (lims.get T).getD 0
 cmp T := memb [] T
 sig g := (sigs.get g).getD ⟨[], [], 0⟩
 body g := bodies.get g
 ext g := ext g
 live g r := lives.get (Nat.add (Nat.mul g 4096) r)
end LvG1
end
section
namespace LvS1
open Go Lk
set_option linter.unusedVariables false
structure V where
 f14 (n : Nat) (a0 : List (List Lk.LFile)) : Option (Bool × Unit)
 f51 (n : Nat) (a0 : List Int) : Option (List Int × Unit)
 f23 (n : Nat) (a0 : AbL) : Option (List (Int) × Unit)
 p23_5 (j n0 : Nat) (v3 : List (Int)) (v11 : AbL) (v12 : Int) (v13 : Int) : Option (List (Int) × Unit)
 p23_8 (j n0 n1 : Nat) (v3 : List (Int)) (v11 : AbL) (v12 : Int) (v13 : Int) (v17 : List AbF) (v18 : Int) (v19 : Int) : Option (List (Int) × Unit)
 f14_eq (n : Nat) (a0 : List (List Lk.LFile)) : f14 n a0 = some (Lv.validM a0, ())
 f51_eq (n : Nat) (a0 : List Int) : f51 n a0 = bif Nat.ble (List.length a0) 1073741824 then some (List.mergeSort a0 fun x y => decide (x ≤ y), ()) else none
 f23_eq (n : Nat) (a0 : AbL) : f23 (n + 1) a0 = (obind (f14 n a0) fun r43 => (sel (!r43.fst) (some ([], ())) (p23_5 n n ([]) a0 ((↑a0.length : Int)) ((0 : Int)))))
 p23_5_eq (j n0 : Nat) (v3 : List (Int)) (v11 : AbL) (v12 : Int) (v13 : Int) : p23_5 (j + 1) n0 v3 v11 v12 v13 = (sel (decide (v13 < v12)) (sel (decide (0 ≤ v13)) (sel (decide (v13 < (↑v11.length : Int))) (p23_8 j n0 j v3 v11 v12 v13 (v11.getD v13.toNat []) ((↑(List.length (v11.getD v13.toNat [])) : Int)) ((0 : Int))) none) none) (obind (f51 n0 v3) fun r271 => (some (r271.fst, ()))))
 p23_8_eq (j n0 n1 : Nat) (v3 : List (Int)) (v11 : AbL) (v12 : Int) (v13 : Int) (v17 : List AbF) (v18 : Int) (v19 : Int) : p23_8 (j + 1) n0 n1 v3 v11 v12 v13 v17 v18 v19 = (sel (decide (v19 < v18)) (sel (decide (0 ≤ v19)) (sel (decide (v19 < (↑v17.length : Int))) (sel true (sel true (sel (decide (v3.length + 1 ≤ 1073741824)) (p23_8 j n0 n1 (v3 ++ [((some (v17.getD v19.toNat (0, 0, [], [], 0, 0, ()))).getD ((0 : Int), (0 : Int), [], [], (0 : Int), (0 : Int), ())).fst]) v11 v12 v13 v17 v18 (IntKind.i64.wrap (v19 + 1))) none) none) none) none) none) (p23_5 n1 n0 v3 v11 v12 (IntKind.i64.wrap (v13 + 1))))
end LvS1
end
section
namespace LvG1
open Go Lk
set_option linter.unusedVariables false
@[irreducible] noncomputable def f14 (n : Nat) (a0 : List (List Lk.LFile)) : Option (Bool × Unit) := F G n 14 (a0, ())
theorem f14_eq (n : Nat) (a0 : List (List Lk.LFile)) : f14 n a0 = some (Lv.validM a0, ()) := by kernel_rfl
@[irreducible] noncomputable def f51 (n : Nat) (a0 : List Int) : Option (List Int × Unit) := F G n 51 (a0, ())
theorem f51_eq (n : Nat) (a0 : List Int) : f51 n a0 = bif Nat.ble (List.length a0) 1073741824 then some (List.mergeSort a0 fun x y => decide (x ≤ y), ()) else none := by kernel_rfl
@[irreducible] noncomputable def f23 (n : Nat) (a0 : AbL) : Option (List (Int) × Unit) := F G n 23 (a0, ())
@[irreducible] noncomputable def p23_5 (j n0 : Nat) (v3 : List (Int)) (v11 : AbL) (v12 : Int) (v13 : Int) : Option (List (Int) × Unit) := piece G 23 [.r, .r, .r, .l, .r, .b] j [n0] (skel 33 0 [(3, .av ⟨(.l (.i .i64)), (.o .r), v3⟩), (11, .av ⟨TyL, .b, v11⟩), (12, aI v12), (13, aI v13)])
@[irreducible] noncomputable def p23_8 (j n0 n1 : Nat) (v3 : List (Int)) (v11 : AbL) (v12 : Int) (v13 : Int) (v17 : List AbF) (v18 : Int) (v19 : Int) : Option (List (Int) × Unit) := piece G 23 [.r, .r, .r, .l, .r, .b, .o, .r, .r, .l, .b, .r, .r, .b] j [n0, n1] (skel 33 0 [(3, .av ⟨(.l (.i .i64)), (.o .r), v3⟩), (11, .av ⟨TyL, .b, v11⟩), (12, aI v12), (13, aI v13), (17, .av ⟨(.l TyF), .b, v17⟩), (18, aI v18), (19, aI v19)])
theorem f23_eq (n : Nat) (a0 : AbL) : f23 (n + 1) a0 = (obind (f14 n a0) fun r43 => (sel (!r43.fst) (some ([], ())) (p23_5 n n ([]) a0 ((↑a0.length : Int)) ((0 : Int))))) := by kernel_rfl
theorem p23_5_eq (j n0 : Nat) (v3 : List (Int)) (v11 : AbL) (v12 : Int) (v13 : Int) : p23_5 (j + 1) n0 v3 v11 v12 v13 = (sel (decide (v13 < v12)) (sel (decide (0 ≤ v13)) (sel (decide (v13 < (↑v11.length : Int))) (p23_8 j n0 j v3 v11 v12 v13 (v11.getD v13.toNat []) ((↑(List.length (v11.getD v13.toNat [])) : Int)) ((0 : Int))) none) none) (obind (f51 n0 v3) fun r271 => (some (r271.fst, ())))) := by kernel_rfl
theorem p23_8_eq (j n0 n1 : Nat) (v3 : List (Int)) (v11 : AbL) (v12 : Int) (v13 : Int) (v17 : List AbF) (v18 : Int) (v19 : Int) : p23_8 (j + 1) n0 n1 v3 v11 v12 v13 v17 v18 v19 = (sel (decide (v19 < v18)) (sel (decide (0 ≤ v19)) (sel (decide (v19 < (↑v17.length : Int))) (sel true (sel true (sel (decide (v3.length + 1 ≤ 1073741824)) (p23_8 j n0 n1 (v3 ++ [((some (v17.getD v19.toNat (0, 0, [], [], 0, 0, ()))).getD ((0 : Int), (0 : Int), [], [], (0 : Int), (0 : Int), ())).fst]) v11 v12 v13 v17 v18 (IntKind.i64.wrap (v19 + 1))) none) none) none) none) none) (p23_5 n1 n0 v3 v11 v12 (IntKind.i64.wrap (v13 + 1)))) := by kernel_rfl
end LvG1
end
section
namespace LvG1
open Go Lk
noncomputable def theV : LvS1.V where
 f14 := f14
 f51 := f51
 f23 := f23
 p23_5 := p23_5
 p23_8 := p23_8
 f14_eq := f14_eq
 f51_eq := f51_eq
 f23_eq := f23_eq
 p23_5_eq := p23_5_eq
 p23_8_eq := p23_8_eq
end LvG1
end
section
/-! Plain: a version's numbers. -/
namespace LvS1
open Go Lk
def sortI (l : List Int) : List Int := l.mergeSort fun x y => decide (x ≤ y)
def nums (x : List (List LFile)) : List Int := (x.map fun y => y.map fun f => f.1).flatten
def numsM (x : List (List LFile)) : List Int := bif Lv.validM x then sortI (nums x) else []
theorem V.inner (h : V) (n0 n1 : Nat) (x : List (List LFile)) (X a : Int) (y : List LFile) : ∀ (k i j : Nat) (v : List Int), i + k = y.length → k < j → v.length + k ≤ 1073741824 → y.length ≤ 1073741824 →
  h.p23_8 j n0 n1 v x X a y (y.length : Int) (i : Int) = h.p23_5 n1 n0 (v ++ (y.drop i).map fun f => f.1) x X (Go.IntKind.i64.wrap (a + 1))
 | 0, i, j, v, hi, hj, hv, hy => by
  obtain ⟨j, rfl⟩ : ∃ j', j = j' + 1 := ⟨j - 1, by omega⟩
  rw [h.p23_8_eq, sel_dec, if_neg (by omega), List.drop_of_length_le (by omega)]
  simp
 | k + 1, i, j, v, hi, hj, hv, hy => by
  obtain ⟨j, rfl⟩ : ∃ j', j = j' + 1 := ⟨j - 1, by omega⟩
  have hil : i < y.length := by omega
  rw [h.p23_8_eq, sel_dec, if_pos (by omega), sel_dec, if_pos (by omega), sel_dec, if_pos (by omega), sel_t, sel_t, sel_dec, if_pos (by omega), wrap64 (by omega) (by omega)]
  have e1 : y.getD (i : Int).toNat ((0 : Int), (0 : Int), [], [], (0 : Int), (0 : Int), ()) = y[i] := by
   rw [Int.toNat_natCast, List.getD_eq_getElem?_getD, List.getElem?_eq_getElem hil]; rfl
  rw [e1, Option.getD_some]
  have := V.inner h n0 n1 x X a y k (i + 1) j (v ++ [y[i].1]) (by omega) (by omega) (by simp; omega) hy
  rw [show ((i + 1 : Nat) : Int) = (i : Int) + 1 by omega] at this
  rw [this]
  have e2 : (y.drop i).map (fun f => f.1) = y[i].1 :: (y.drop (i + 1)).map fun f => f.1 := by rw [List.drop_eq_getElem_cons hil]; rfl
  rw [e2, List.append_assoc]
  rfl
theorem V.outer (h : V) (n0 : Nat) (x : List (List LFile)) (L : Nat) (hL : ∀ y ∈ x, y.length ≤ L) (hx : x.length ≤ 1073741824) : ∀ (k i j : Nat) (v : List Int), i + k = x.length → k + L < j → v.length + (nums (x.drop i)).length ≤ 1073741824 →
  h.p23_5 j n0 v x (x.length : Int) (i : Int) = obind (h.f51 n0 (v ++ nums (x.drop i))) fun r => some (r.fst, ())
 | 0, i, j, v, hi, hj, hv => by
  obtain ⟨j, rfl⟩ : ∃ j', j = j' + 1 := ⟨j - 1, by omega⟩
  rw [h.p23_5_eq, sel_dec, if_neg (by omega), List.drop_of_length_le (by omega)]
  simp [nums]
 | k + 1, i, j, v, hi, hj, hv => by
  obtain ⟨j, rfl⟩ : ∃ j', j = j' + 1 := ⟨j - 1, by omega⟩
  have hil : i < x.length := by omega
  have e1 : x.getD (i : Int).toNat [] = x[i] := by
   rw [Int.toNat_natCast, List.getD_eq_getElem?_getD, List.getElem?_eq_getElem hil]; rfl
  have e2 : nums (x.drop i) = (x[i].map fun f => f.1) ++ nums (x.drop (i + 1)) := by
   rw [List.drop_eq_getElem_cons hil]; rfl
  have hyl := hL _ (List.getElem_mem hil)
  rw [e2, List.length_append, List.length_map] at hv
  rw [h.p23_5_eq, sel_dec, if_pos (by omega), sel_dec, if_pos (by omega), sel_dec, if_pos (by omega), e1]
  have := h.inner n0 j x (x.length : Int) (i : Int) x[i] x[i].length 0 j v (by omega) (by omega) (by omega) (by omega)
  rw [show ((0 : Nat) : Int) = (0 : Int) from rfl, List.drop_zero] at this
  rw [this, wrap64 (by omega) (by omega), e2]
  have := V.outer h n0 x L hL hx k (i + 1) j (v ++ x[i].map fun f => f.1) (by omega) (by omega) (by simp; omega)
  rw [show ((i + 1 : Nat) : Int) = (i : Int) + 1 by omega, List.append_assoc] at this
  exact this
theorem nums_len {x : List (List LFile)} {y : List LFile} (h : y ∈ x) : y.length ≤ (nums x).length := by
 induction x with
 | nil => cases h
 | cons z x ih =>
  have e : (nums (z :: x)).length = z.length + (nums x).length := by simp [nums]
  rw [e]
  rcases List.mem_cons.1 h with rfl | h
  ·omega
  ·have := ih h; omega
theorem V.numbers (h : V) (x : List (List LFile)) (hx : x.length ≤ 1073741824) (hn : (nums x).length ≤ 1073741824) : h.f23 (x.length + (nums x).length + 2) x = some (numsM x, ()) := by
 rw [h.f23_eq, h.f14_eq, ob_some]
 unfold numsM
 cases Lv.validM x with
 | false => rfl
 | true =>
  rw [Bool.not_true, sel_f, cond_true]
  have := h.outer (x.length + (nums x).length + 1) x (nums x).length (fun y hy => nums_len hy) hx x.length 0 (x.length + (nums x).length + 1) [] (by omega) (by omega) (by simpa using hn)
  rw [show ((0 : Nat) : Int) = (0 : Int) from rfl, List.drop_zero, List.nil_append, h.f51_eq] at this
  have hb : Nat.ble (nums x).length 1073741824 = true := by rw [Nat.ble_eq]; exact hn
  rw [hb, cond_true, ob_some] at this
  exact this
end LvS1
end
section
namespace Go.Proofs.YtligonpmifolfaaGreatDoor.LvG1P
open Go.ChangeShapes Go.WideShapes Go.ChangeAt Go.RowKit
variable {ax : Lk.Ax}
abbrev kw : Lk.KW := ⟨fun _ => True, 0⟩
theorem env : Lk.EnvOk ax Tryz.prog LvG1.G.toEnv := Lk.env_ok (tys := LvG1.tys) (lims := LvG1.lims) (cmps := []) (fun _ => rfl) (fun _ => rfl) (fun _ => rfl) (by kernel_rfl) (by kernel_rfl)
theorem names : (LvG1.bodies.toList ++ LvG1.exts.toList).all (fun p => Lk.nameB p.2) = true := by kernel_rfl
theorem nrs : LvG1.bodies.toList.all (Lk.nrB LvG1.sigs) = true := by kernel_rfl
theorem funcs : ∀ p ∈ LvG1.bodies.toList ++ LvG1.exts.toList, Tryz.prog.funcs[p.1]? = some p.2 := by
 intro p hp
 have e : LvG1.bodies.toList ++ LvG1.exts.toList = [(23, Tryz.f23), (14, Tryz.f14), (51, Tryz.f51)] := by kernel_rfl
 rw [e] at hp
 simp only [List.mem_cons, List.not_mem_nil, or_false] at hp
 rcases hp with rfl | rfl | rfl
 ·exact Tryz.func23
 ·exact Tryz.func14
 ·exact Tryz.func51
theorem exts : ∀ g F n, LvG1.G.ext g = some F → Lk.FnOk (τ := ax) (Kw := kw) Tryz.prog g (LvG1.G.sig g) (F n) := by
 intro g F n h
 show Lk.FnOk (τ := ax) (Kw := kw) Tryz.prog g ((LvG1.sigs.get g).getD ⟨[], [], 0⟩) (F n)
 change LvG1.ext g = some F at h
 unfold LvG1.ext at h
 split at h
 ·cases h; exact Lv.ok_valid
 ·cases h; exact Lv.ok_sort
 ·cases h
theorem extb : ∀ g F, LvG1.G.ext g = some F → (LvG1.exts.get g).isSome = true := by
 intro g F h
 change LvG1.ext g = some F at h
 unfold LvG1.ext at h
 split at h
 ·rfl
 ·rfl
 ·cases h
theorem prg : Lk.PrgOk kw ax Tryz.prog LvG1.G :=
 Lk.prg_ok (bodies := LvG1.bodies) (exts := LvG1.exts) env (by kernel_rfl) (fun _ _ _ _ _ _ _ => trivial) (fun _ => rfl) extb exts funcs names (by kernel_rfl)
theorem res : ∀ g fn, LvG1.G.body g = some fn → fn.results.size ≤ 5 ∧ (LvG1.G.sig g).nr = fn.results.size := Lk.res_le (bodies := LvG1.bodies) (exts := LvG1.exts) (sigs := LvG1.sigs) (fun _ => rfl) (fun _ => rfl) names nrs
end Go.Proofs.YtligonpmifolfaaGreatDoor.LvG1P
end
section
/-! What a version's numbers come to. -/
namespace Lv
open Go Go.RowKit Go.Proofs
open LvS1 (sortI nums numsM)
theorem new_of_ok1 {g : FuncId} {ps : List (Lk.Ty × Lk.Md)} {t : Lk.Ty} {m : Lk.Md} (hf : Lk.flat t = true) (hp : pureT t = true) (hn : Lk.nh t m = true) {F : Lk.Tup ps → Option (Lk.Tup [(.l t, .o m)])} {τ : Lk.Ax} (hok : Lk.FnOk (τ := τ) (Kw := ⟨fun _ => True, 0⟩) Tryz.prog g ⟨ps, [(.l t, .o m)], 1⟩ F)
  {x : Lk.Tup ps} {y : List (Lk.E t)} (hF : F x = some (y, ())) {w : World} {S : Nat → Prop} (hS : ∀ k, S k → k < w.heap.size) {ads : List Lk.DV} (ha : ads.map Lk.DV.av = Lk.avs ps x) (hh : ∀ d ∈ ads, d.hold τ (fun _ => False) (fun b => False ∨ S b) w) (hb : Lk.blsOf ads = []) :
  Calls Tryz.prog g (ads.map (Lk.DV.val τ)).toArray w fun e w' => ∃ v', e = .returned v' ∧ NewRow w w' t m y v' := by
 refine (hok x _ hF w (fun _ => False) S ads trivial (fun b h => h.elim (fun h => h.elim) (hS b)) ha ⟨hh, by rw [hb]; simp, by rw [hb]; simp, by rw [hb]; simp, Nat.zero_le _⟩).mono ?_
 rintro e w' ⟨v, rfl, hE, ⟨rds, S', q1, q2, q3, q4, q5, q6, q7, q8, q9⟩⟩
 obtain ⟨sh, rds', rfl, q1'⟩ := ads_cons q1
 obtain rfl := ads_nil q1'
 rw [hb] at hE q7
 have hbl : Lk.blsOf [(⟨.l t, .o m, y, sh⟩ : Lk.DV)] = Lk.bl (.l t) (.o m) y sh := by
  rw [Lk.blsOf_cons]
  exact List.append_nil _
 rw [hbl] at q6 q7
 refine ⟨v, rfl, sh, q8, fun τ' T Tb => row_any hf hp hn (q5 _ (List.mem_cons_self ..)), hE, q6, fun k hk => ?_⟩
 obtain ⟨h1, h2, _⟩ := q7 k hk
 exact ⟨h1.resolve_left (by simp), h2⟩
def smallN (x : Levels) : Bool := Nat.ble x.length 1073741824 && Nat.ble (nums x).length 1073741824
theorem numbers_any {τ : Lk.Ax} (w : World) (x : Levels) (v : Value) {S : Nat → Prop} (hr : Lk.Rd τ S w LvT x [v]) (hS : ∀ k, S k → k < w.heap.size) (hx : smallN x = true) :
  Calls Tryz.prog 23 #[v] w fun e w' => ∃ v', e = .returned v' ∧ NewRow w w' (.i .i64) .r (numsM x) v' := by
 obtain ⟨sh, hsh⟩ := Lk.Rd_sh LvT x _ hr
 unfold smallN at hx
 simp only [Bool.and_eq_true, Nat.ble_eq] at hx
 have hF := LvG1.theV.numbers x hx.1 hx.2
 have hok : Lk.FnOk (τ := τ) (Kw := ⟨fun _ => True, 0⟩) Tryz.prog 23 ⟨[(LvT, .b)], [(.l (.i .i64), .o .r)], 1⟩ (Lk.F LvG1.G (x.length + (nums x).length + 2) 23) := Lk.F_ok Go.Proofs.YtligonpmifolfaaGreatDoor.LvG1P.prg Go.Proofs.YtligonpmifolfaaGreatDoor.LvG1P.res _ 23
 have hv : v = sh.hd := by
  have : [sh.hd] = [v] := hsh
  simpa using this.symm
 have := new_of_ok1 rfl rfl rfl hok (x := (x, ())) (y := numsM x) (hF := by
  have e := hF
  change LvG1.f23 _ x = _ at e
  unfold LvG1.f23 at e
  exact e) hS (ads := [⟨LvT, .b, x, sh⟩]) rfl (by
   intro d hd
   obtain rfl := List.mem_singleton.1 hd
   show Lk.Rd τ _ w LvT x _
   rw [hsh]
   exact Lk.Rd_keep τ (fun b hb => ⟨.inr hb, rfl⟩) _ _ _ hr) rfl
 rw [hv]
 exact this
end Lv
end
section
/-! A set of versions: what its calls do that change nothing. -/
namespace Lv
open Go Go.RowKit Go.Proofs
open LvS1 (sortI nums numsM)
section
variable {w : World} {x : Lk.LiveS} {b m1 m2 : Nat} {ds : List (Int × Ver)}
theorem LiveAt.cells (h : LiveAt w x b m1 m2 ds) : w.cell? ⟨b, 0, none⟩ = some (.map (some m1)) ∧ w.cell? ⟨b, 1, none⟩ = some (.int .i64 x.cur) ∧ w.cell? ⟨b, 2, none⟩ = some (.map (some m2)) := by
 obtain ⟨ty, h1⟩ := h.head
 unfold World.cell?
 rw [h1]
 exact ⟨rfl, rfl, rfl⟩
def noV : Value := .agg #[.slice none 0 0, .int .i64 0]
theorem zero68 (w : World) : (zeroValue 68).run Tryz.prog w = .ok noV w := by
 have h0 : (Tryz.prog.info? 68).isSome = true := by kernel_rfl
 obtain ⟨i, hi⟩ := Option.isSome_iff_exists.1 h0
 have h3 : (Tryz.prog.info? 68).bind (·.zero) = some noV := by kernel_rfl
 rw [hi] at h3
 exact Lk.run_zero hi (by simpa using h3)
def levelsOf (x : Lk.LiveS) (k : Int) : Levels := ((get x.vs k).map (·.1)).getD []
def refsOf (x : Lk.LiveS) (k : Int) : Int := ((get x.vs k).map (·.2)).getD 0
theorem LiveAt.get_vs (h : LiveAt w x b m1 m2 ds) (k : Int) : get x.vs k = (get ds k).map (·.1) := by
 rw [h.vs]
 exact get_map (fun v : Ver => v.1) ds k
theorem LiveAt.has_vs (h : LiveAt w x b m1 m2 ds) (k : Int) : has x.vs k = has ds k := by
 rw [h.vs]
 exact has_map (fun v : Ver => v.1) ds k
theorem LiveAt.look (h : LiveAt w x b m1 m2 ds) (k : Int) : ∃ lv bs, (∀ w', (∀ q ∈ b :: m1 :: m2 :: vblks ds, w'.heap[q]? = w.heap[q]?) → (Instr.lookup 69 (.map (some m1)) (.int .i64 k) false).run Tryz.prog w' = .ok (.agg #[lv, .int .i64 (refsOf x k)]) w' ∧
   (Instr.lookup 69 (.map (some m1)) (.int .i64 k) true).run Tryz.prog w' = .ok (.tuple #[.agg #[lv, .int .i64 (refsOf x k)], .bool (has x.vs k)]) w') ∧
  Lk.Rd ax0 (fun q => q ∈ bs) w LvT (levelsOf x k) [lv] ∧ (∀ q ∈ bs, q ∈ vblks ds) ∧ Lk.inR .i64 (refsOf x k) ∧ (∀ v, get ds k = some v → lv = v.2.1 ∧ bs = v.2.2) := by
 have hv := h.get_vs k
 obtain ⟨es, c, hM⟩ := h.vers
 have hl := fun (w' : World) (hk : ∀ q ∈ b :: m1 :: m2 :: vblks ds, w'.heap[q]? = w.heap[q]?) => (hM.keep (hk m1 (by simp))).lookup Tryz.underlying69 Tryz.underlying3 (zero68 w') k
 have hl2 := fun (w' : World) (hk : ∀ q ∈ b :: m1 :: m2 :: vblks ds, w'.heap[q]? = w.heap[q]?) => (hM.keep (hk m1 (by simp))).lookup2 Tryz.underlying69 Tryz.underlying3 (zero68 w') k
 have hg : get (ds.map fun p => (p.1, heldV p.2)) k = (get ds k).map heldV := get_map heldV ds k
 have hh : has (ds.map fun p => (p.1, heldV p.2)) k = has x.vs k := by rw [h.has_vs]; exact has_map heldV ds k
 rw [hg] at hl hl2
 rw [hh] at hl2
 unfold levelsOf refsOf
 rw [hv]
 cases hd : get ds k with
 | none =>
  rw [hd] at hl hl2
  refine ⟨.slice none 0 0, [], fun w' hk => ⟨hl w' hk, hl2 w' hk⟩, ⟨none, 0, rfl, Nat.le_refl _, by simp [Lk.big], fun _ => rfl, .inl rfl⟩, by simp, ⟨by decide, by decide⟩, by simp⟩
 | some v =>
  rw [hd] at hl hl2
  have hm := get_mem hd
  exact ⟨v.2.1, v.2.2, fun w' hk => ⟨hl w' hk, hl2 w' hk⟩, h.rows _ hm, fun q hq => mem_vblks hm hq, h.refs _ hm, fun u hu => by cases hu; exact ⟨rfl, rfl⟩⟩
end
theorem field_refs (w : World) (a : Option Addr) (n c : Nat) (r : Int) : (Instr.field 68 (.agg #[.slice a n c, .int .i64 r]) 1).run Tryz.prog w = .ok (.int .i64 r) w := by kernel_rfl
theorem field_levels (w : World) (a : Option Addr) (n c : Nat) (r : Int) : (Instr.field 68 (.agg #[.slice a n c, .int .i64 r]) 0).run Tryz.prog w = .ok (.slice a n c) w := by kernel_rfl
set_option maxRecDepth 100000 in
theorem none_any (w : World) (x : Lk.LiveS) (b m1 m2 : Nat) (ds : List (Int × Ver)) (h : LiveAt w x b m1 m2 ds) : Calls Tryz.prog 49 #[.pointer (some ⟨b, 0, none⟩)] w fun e w' => e = .returned (.bool false) ∧ w' = w := by
 obtain ⟨h0, _, _⟩ := h.cells
 have q69 : ∀ (w : World) (r : Option Nat), (binOp .eql 69 (.map r) (.map none)).run Tryz.prog w = .ok (.bool r.isNone) w := fun w r => run_eql_map_nil w _ _ _ r Tryz.underlying69
 go_enter Tryz.func49, Tryz.ntmps49
 go_wp2
 go_ret
 exact ⟨rfl, rfl⟩
set_option maxRecDepth 100000 in
theorem len_any (w : World) (x : Lk.LiveS) (b m1 m2 : Nat) (ds : List (Int × Ver)) (h : LiveAt w x b m1 m2 ds) : Calls Tryz.prog 20 #[.pointer (some ⟨b, 0, none⟩)] w fun e w' => e = .returned (.int .i64 x.vs.length) ∧ w' = w := by
 obtain ⟨h0, _, _⟩ := h.cells
 obtain ⟨es, c, hM⟩ := h.vers
 have hl := hM.len Tryz.underlying69
 have hlen : (ds.map fun p => (p.1, heldV p.2)).length = x.vs.length := by rw [h.vs]; simp
 rw [hlen] at hl
 have hN := none_any w x b m1 m2 ds h
 clear hlen hM h
 go_enter Tryz.func20, Tryz.ntmps20
 go_wp2_with (go_at_call 49; refine hN.mono ?_; rintro e w2 ⟨rfl, hw⟩; replace hw := hw.symm; subst hw)
 go_ret
 exact ⟨rfl, rfl⟩
set_option maxRecDepth 100000 in
theorem refs_any (w : World) (x : Lk.LiveS) (b m1 m2 : Nat) (ds : List (Int × Ver)) (h : LiveAt w x b m1 m2 ds) (k : Int) : Calls Tryz.prog 17 #[.pointer (some ⟨b, 0, none⟩), .int .i64 k] w fun e w' => e = .returned (.int .i64 (refsOf x k)) ∧ w' = w := by
 obtain ⟨h0, _, _⟩ := h.cells
 obtain ⟨lv, bs, hL, hR, _⟩ := h.look k
 obtain ⟨a, c, rfl, _⟩ := rd_levels hR
 clear hR
 obtain ⟨hL, _⟩ := hL w (fun _ _ => rfl)
 have hN := none_any w x b m1 m2 ds h
 have hF := field_refs
 clear h
 go_enter Tryz.func17, Tryz.ntmps17
 go_wp2_with (go_at_call 49; refine hN.mono ?_; rintro e w2 ⟨rfl, hw⟩; replace hw := hw.symm; subst hw)
 go_ret
 exact ⟨rfl, rfl⟩
end Lv
end
section
/-! A set of versions: the calls that hand out copies. -/
namespace Lv
open Go Go.RowKit Go.Proofs
theorem NewRow.of_heap {w w1 w' : World} {t : Lk.Ty} {m : Lk.Md} {x : List (Lk.E t)} {v : Value} (h : NewRow w1 w' t m x v) (he : Lk.Ext [] w w1) : NewRow w w' t m x v := by
 obtain ⟨sh, h1, h2, h3, h4, h5⟩ := h
 have := he.size
 exact ⟨sh, h1, h2, ext_tr he h3 (by simp), h4, fun k hk => ⟨by have := (h5 k hk).1; omega, (h5 k hk).2⟩⟩
set_option maxHeartbeats 1000000 in
set_option maxRecDepth 100000 in
theorem current_any (w : World) (x : Lk.LiveS) (b m1 m2 : Nat) (ds : List (Int × Ver)) (h : LiveAt w x b m1 m2 ds) (hx : smallL (levelsOf x x.cur) = true) :
  Calls Tryz.prog 16 #[.pointer (some ⟨b, 0, none⟩)] w fun e w' => ∃ v', e = .returned (.tuple #[.int .i64 x.cur, v']) ∧ NewRow w w' (.l FT) (.o FQ) (levelsOf x x.cur) v' := by
 obtain ⟨h0, h1, _⟩ := h.cells
 obtain ⟨lv, bs, hL, hR, hbs, _⟩ := h.look x.cur
 have hlt : ∀ k ∈ bs, k < w.heap.size := fun k hk => h.lt k (by simp [hbs k hk])
 have hC := copied_any (τ := ax0) w.drew (levelsOf x x.cur) lv (Lk.Rd_keep ax0 (w' := w.drew) (fun k hk => ⟨hk, rfl⟩) _ _ _ hR) hlt hx
 obtain ⟨a, c, rfl, _⟩ := rd_levels hR
 replace hL := (hL w.drew (fun _ _ => rfl)).1
 have hN := none_any w x b m1 m2 ds h
 have hF := field_levels
 have hE : Lk.Ext [] w w.drew := ext_drew (ext_refl _ _) _
 have hb : b < w.heap.size := h.lt b (by simp)
 have hK : ∀ {w2 : World} {v' : Value} {j : Nat} {z : Value}, NewRow w.drew w2 (.l FT) (.o FQ) (levelsOf x x.cur) v' → w.cell? ⟨b, j, none⟩ = some z → w2.cell? ⟨b, j, none⟩ = some z := fun {w2 v' j z} hN hz => by
  obtain ⟨_, _, _, hE', _⟩ := hN
  exact cell_ext (ext_tr hE hE' (by simp)) hb hz
 clear h hR hlt hbs
 go_enter Tryz.func16, Tryz.ntmps16
 go_wp2_with (go_at_call 49; refine hN.mono ?_; rintro e w2 ⟨rfl, hw⟩; replace hw := hw.symm; subst hw)
 go_region_held3 (fun W : World => W.cell? ⟨b, 0, none⟩ = some (.map (some m1)) ∧ W.cell? ⟨b, 1, none⟩ = some (.int .i64 x.cur)) (first | exact ⟨h0, h1⟩ | go_keep) (first | (go_at_call 31; refine hC.mono ?_; rintro e w2 ⟨v', rfl, hN2⟩; have r0 := hK hN2 h0; have r1 := hK hN2 h1))
 go_wp2
 go_ret2
 exact ⟨v', rfl, hN2.of_heap hE⟩
set_option maxHeartbeats 1000000 in
set_option maxRecDepth 100000 in
theorem levels_there (w : World) (x : Lk.LiveS) (b m1 m2 : Nat) (ds : List (Int × Ver)) (h : LiveAt w x b m1 m2 ds) (k : Int) (hk : has x.vs k = true) (hx : smallL (levelsOf x k) = true) :
  Calls Tryz.prog 29 #[.pointer (some ⟨b, 0, none⟩), .int .i64 k] w fun e w' => ∃ v', e = .returned (.tuple #[v', .int .i64 0]) ∧ NewRow w w' (.l FT) (.o FQ) (levelsOf x k) v' := by
 obtain ⟨h0, _, _⟩ := h.cells
 obtain ⟨lv, bs, hL, hR, hbs, _⟩ := h.look k
 have hlt : ∀ k ∈ bs, k < w.heap.size := fun k hk => h.lt k (by simp [hbs k hk])
 have hC := fun (o : Obj) => copied_any (τ := ax0) (w.alloc o) (levelsOf x k) lv (Lk.Rd_keep ax0 (w' := w.alloc o) (fun k hk => ⟨hk, alloc_lt w o (hlt k hk)⟩) _ _ _ hR) (fun k hk => by rw [alloc_size]; have := hlt k hk; omega) hx
 obtain ⟨a, c, rfl, _⟩ := rd_levels hR
 replace hL := (hL w (fun _ _ => rfl)).2
 rw [hk] at hL
 have hN := none_any w x b m1 m2 ds h
 have hE : ∀ o, Lk.Ext [] w (w.alloc o) := fun o => ext_alloc (ext_refl _ _) o
 clear h hR hlt hbs
 go_enter Tryz.func29, Tryz.ntmps29
 go_wp2_with (first | (go_at_call 49; refine hN.mono ?_; rintro e w2 ⟨rfl, hw⟩; replace hw := hw.symm; subst hw) | (go_at_call 31; refine (hC _).mono ?_; rintro e w2 ⟨v', rfl, hN2⟩))
 go_ret2
 exact ⟨v', rfl, hN2.of_heap (hE _)⟩
set_option maxHeartbeats 1000000 in
set_option maxRecDepth 100000 in
theorem levels_not (w : World) (x : Lk.LiveS) (b m1 m2 : Nat) (ds : List (Int × Ver)) (h : LiveAt w x b m1 m2 ds) (k : Int) (hk : has x.vs k = false) :
  Calls Tryz.prog 29 #[.pointer (some ⟨b, 0, none⟩), .int .i64 k] w fun e w' => ∃ v', e = .returned (.tuple #[v', .int .i64 180]) ∧ NewRow w w' (.l FT) (.o FQ) [] v' := by
 obtain ⟨h0, _, _⟩ := h.cells
 obtain ⟨lv, bs, hL, hR, hbs, _⟩ := h.look k
 obtain ⟨a, c, rfl, _⟩ := rd_levels hR
 replace hL := (hL w (fun _ _ => rfl)).2
 rw [hk] at hL
 have hN := none_any w x b m1 m2 ds h
 have hE : ∀ o, Lk.Ext [] w (w.alloc o) := fun o => ext_alloc (ext_refl _ _) o
 clear h hR hbs
 go_enter Tryz.func29, Tryz.ntmps29
 go_wp2_with (go_at_call 49; refine hN.mono ?_; rintro e w2 ⟨rfl, hw⟩; replace hw := hw.symm; subst hw)
 go_ret2
 exact ⟨_, rfl, (nil_row _ _ _).of_heap (hE _)⟩
end Lv
end
section
/-! A set of versions: how it is turned. -/
namespace Lv
open Go Go.RowKit Go.Proofs
section
variable {w : World} {x : Lk.LiveS} {b m1 m2 : Nat} {ds : List (Int × Ver)}
theorem inR_0 : Lk.inR .i64 0 := ⟨by decide, by decide⟩
theorem inR_1 : Lk.inR .i64 1 := ⟨by decide, by decide⟩
theorem LiveAt.apart (h : LiveAt w x b m1 m2 ds) : b ≠ m1 ∧ b ≠ m2 ∧ m1 ≠ m2 ∧ b ∉ vblks ds ∧ m1 ∉ vblks ds ∧ m2 ∉ vblks ds := by
 have := h.nodup
 simp only [List.nodup_cons, List.mem_cons, not_or] at this
 exact ⟨this.1.1, this.1.2.1, this.2.1.1, this.1.2.2, this.2.1.2, this.2.2.1⟩
theorem LiveAt.remap (h : LiveAt w x b m1 m2 ds) {w' : World} (hE : ∀ k, k ≠ m1 → w'.heap[k]? = w.heap[k]?) (hsz : w.heap.size ≤ w'.heap.size) {ds' : List (Int × Ver)} (hM : ∃ es c, MapAt w' m1 es c (ds'.map fun p => (p.1, heldV p.2)))
  (hrows : ∀ p ∈ ds', p ∈ ds ∨ (Lk.Rd ax0 (fun k => k ∈ p.2.2.2) w LvT p.2.1.1 [p.2.2.1] ∧ Lk.inR .i64 p.2.1.2)) (hnd : (b :: m1 :: m2 :: vblks ds').Nodup) (hlt : ∀ k ∈ vblks ds', k < w.heap.size) :
  LiveAt w' { x with vs := ds'.map fun p => (p.1, p.2.1) } b m1 m2 ds' := by
 obtain ⟨a1, a2, a3, a4, a5, a6⟩ := h.apart
 refine ⟨by rw [hE b a1]; exact h.head, hM, ?_, rfl, fun p hp => ?_, fun p hp => ?_, h.cur, h.wrs, hnd, fun k hk => ?_⟩
 ·obtain ⟨es, c, h2⟩ := h.wri
  exact ⟨es, c, h2.keep (hE m2 (Ne.symm a3))⟩
 ·have hr : Lk.Rd ax0 (fun k => k ∈ p.2.2.2) w LvT p.2.1.1 [p.2.2.1] := (hrows p hp).elim (fun h' => h.rows p h') (·.1)
  refine Lk.Rd_keep ax0 (fun k hk => ⟨hk, hE k fun e => ?_⟩) _ _ _ hr
  subst e
  simp only [List.nodup_cons, List.mem_cons, not_or] at hnd
  exact hnd.2.1.2 (mem_vblks hp hk)
 ·exact (hrows p hp).elim (fun h' => h.refs p h') (·.2)
 ·simp only [List.mem_cons] at hk
  rcases hk with rfl | rfl | rfl | hk
  ·exact Nat.lt_of_lt_of_le (h.lt _ (by simp)) hsz
  ·exact Nat.lt_of_lt_of_le (h.lt _ (by simp)) hsz
  ·exact Nat.lt_of_lt_of_le (h.lt _ (by simp)) hsz
  ·exact Nat.lt_of_lt_of_le (hlt k hk) hsz
theorem setMap_all {w : World} {m : Nat} {es : Array MapEntry} {c : Nat} : ∀ k, k ≠ m → (setMap w m es c).heap[k]? = w.heap[k]? := fun k hk => setMap_other hk
theorem vblks_filter {ds : List (Int × Ver)} (p : Int × Ver → Bool) : (vblks (ds.filter p)).Sublist (vblks ds) := by
 unfold vblks
 induction ds with
 | nil => simp
 | cons f fl ih =>
  rw [List.filter_cons]
  split
  ·simp only [List.map_cons, List.flatten_cons]
   exact (List.Sublist.refl _).append ih
  ·simp only [List.map_cons, List.flatten_cons]
   exact ih.trans (List.sublist_append_right _ _)
theorem LiveAt.del (h : LiveAt w x b m1 m2 ds) (k : Int) : ∃ es' c', (∀ ty, (Builtin.delete_ #[69, 3] ty #[.map (some m1), .int .i64 k]).run Tryz.prog w = .ok (.tuple #[]) (setMap w m1 es' c')) ∧
  LiveAt (setMap w m1 es' c') { x with vs := Lv.del x.vs k } b m1 m2 (Lv.del ds k) := by
 obtain ⟨es, c, hM⟩ := h.vers
 obtain ⟨es', c', h1, h2⟩ := hM.delete Tryz.underlying69 Tryz.underlying3 k
 rw [del_map heldV] at h2
 refine ⟨es', c', h1, ?_⟩
 have hsub : (vblks (Lv.del ds k)).Sublist (vblks ds) := vblks_filter _
 have := h.remap (w' := setMap w m1 es' c') setMap_all (Nat.le_of_eq setMap_size.symm) ⟨_, _, h2⟩ (fun p hp => .inl (mem_del hp).1) (h.nodup.sublist (((hsub.cons_cons m2).cons_cons m1).cons_cons b)) (fun q hq => h.lt q (by simp [hsub.subset hq]))
 rw [h.vs, del_map (fun v : Ver => v.1)]
 exact this
theorem LiveAt.unlike (h : LiveAt w x b m1 m2 ds) : ds.Pairwise fun p q => p.1 ≠ q.1 := by
 obtain ⟨es, c, hM⟩ := h.vers
 have := hM.unlike
 rw [List.pairwise_map] at this
 exact this
theorem vblks_put {ds : List (Int × Ver)} (hu : ds.Pairwise fun p q => p.1 ≠ q.1) {k : Int} {v v0 : Ver} (hg : get ds k = some v0) (hb : v.2.2 = v0.2.2) : vblks (put ds k v) = vblks ds := by
 have hh : has ds k = true := by rw [has_get, hg]; rfl
 unfold put
 rw [hh, cond_true]
 clear hh
 unfold vblks
 rw [List.map_map]
 congr 1
 refine List.map_congr_left fun p hp => ?_
 simp only [Function.comp]
 split
 ·rename_i hk
  have hk : p.1 = k := by simpa using hk
  have hm := get_mem hg
  obtain ⟨i, hi⟩ := List.getElem?_of_mem hp
  obtain ⟨j, hj⟩ := List.getElem?_of_mem hm
  obtain ⟨hi', hi⟩ := List.getElem?_eq_some_iff.1 hi
  obtain ⟨hj', hj⟩ := List.getElem?_eq_some_iff.1 hj
  have : i = j := by
   rcases Nat.lt_trichotomy i j with hl | e | hl
   ·exact absurd (by rw [hi, hj]; exact hk) (List.pairwise_iff_getElem.1 hu i j hi' hj' hl)
   ·exact e
   ·exact absurd (by rw [hi, hj]; exact hk.symm) (List.pairwise_iff_getElem.1 hu j i hj' hi' hl)
  subst this
  rw [hi] at hj
  rw [hj]
  exact hb
 ·rfl
theorem LiveAt.turn (h : LiveAt w x b m1 m2 ds) {k : Int} {v0 : Ver} (hg : get ds k = some v0) {r : Int} (hr : Lk.inR .i64 r) : ∃ es' c', (Instr.mapUpdate 69 (.map (some m1)) (.int .i64 k) (.agg #[v0.2.1, .int .i64 r])).run Tryz.prog w = .ok () (setMap w m1 es' c') ∧
  LiveAt (setMap w m1 es' c') { x with vs := put x.vs k (v0.1.1, r) } b m1 m2 (put ds k ((v0.1.1, r), v0.2)) := by
 obtain ⟨es, c, hM⟩ := h.vers
 obtain ⟨es', c', h1, h2⟩ := hM.update Tryz.underlying69 Tryz.underlying3 k (heldV ((v0.1.1, r), v0.2))
 rw [put_map heldV] at h2
 refine ⟨es', c', h1, ?_⟩
 have hv : vblks (put ds k ((v0.1.1, r), v0.2)) = vblks ds := vblks_put h.unlike hg rfl
 have := h.remap (w' := setMap w m1 es' c') setMap_all (Nat.le_of_eq setMap_size.symm) ⟨_, _, h2⟩ (fun p hp => by
  rcases mem_put hp with hp | rfl
  ·exact .inl hp
  ·exact .inr ⟨h.rows (k, v0) (get_mem hg), hr⟩) (by rw [hv]; exact h.nodup) (by rw [hv]; exact fun q hq => h.lt q (by simp [hq]))
 rw [h.vs, put_map (fun v : Ver => v.1) ds k ((v0.1.1, r), v0.2)]
 exact this
theorem LiveAt.more (h : LiveAt w x b m1 m2 ds) {k : Int} (hk : has ds k = false) {lv : Levels} {val : Value} {bs : List Nat} (hR : Lk.Rd ax0 (fun q => q ∈ bs) w LvT lv [val]) (hn : bs.Nodup) (hlt : ∀ q ∈ bs, q < w.heap.size ∧ q ∉ b :: m1 :: m2 :: vblks ds) :
  ∃ es' c', (Instr.mapUpdate 69 (.map (some m1)) (.int .i64 k) (.agg #[val, .int .i64 0])).run Tryz.prog w = .ok () (setMap w m1 es' c') ∧
  LiveAt (setMap w m1 es' c') { x with vs := put x.vs k (lv, 0) } b m1 m2 (put ds k ((lv, 0), (val, bs))) := by
 obtain ⟨es, c, hM⟩ := h.vers
 obtain ⟨es', c', h1, h2⟩ := hM.update Tryz.underlying69 Tryz.underlying3 k (heldV ((lv, 0), (val, bs)))
 rw [put_map heldV] at h2
 refine ⟨es', c', h1, ?_⟩
 have hv : vblks (put ds k ((lv, 0), (val, bs))) = vblks ds ++ bs := by
  unfold put
  rw [hk, cond_false]
  simp [vblks]
 have hnd : (b :: m1 :: m2 :: (vblks ds ++ bs)).Nodup := by
  have : ((b :: m1 :: m2 :: vblks ds) ++ bs).Nodup := by
   rw [List.nodup_append]
   exact ⟨h.nodup, hn, fun p hp q hq e => (hlt q hq).2 (e ▸ hp)⟩
  exact this
 have := h.remap (w' := setMap w m1 es' c') setMap_all (Nat.le_of_eq setMap_size.symm) ⟨_, _, h2⟩ (fun p hp => by
  rcases mem_put hp with hp | rfl
  ·exact .inl hp
  ·exact .inr ⟨hR, inR_0⟩) (by rw [hv]; exact hnd) (by
   rw [hv]
   intro q hq
   rcases List.mem_append.1 hq with hq | hq
   ·exact h.lt q (by simp [hq])
   ·exact (hlt q hq).1)
 rw [h.vs, put_map (fun v : Ver => v.1) ds k ((lv, 0), (val, bs))]
 exact this
theorem LiveAt.rewr (h : LiveAt w x b m1 m2 ds) {es : Array MapEntry} {c : Nat} {wr : List (Int × Int)} (hM : MapAt (setMap w m2 es c) m2 es c (wr.map fun p => (p.1, .int .i64 p.2))) (hw : ∀ p ∈ wr, Lk.inR .i64 p.1 ∧ Lk.inR .i64 p.2) :
  LiveAt (setMap w m2 es c) { x with wr := wr } b m1 m2 ds := by
 obtain ⟨a1, a2, a3, a4, a5, a6⟩ := h.apart
 have hE : ∀ k, k ≠ m2 → (setMap w m2 es c).heap[k]? = w.heap[k]? := setMap_all
 refine ⟨by rw [hE b a2]; exact h.head, ?_, ⟨_, _, hM⟩, h.vs, fun p hp => Lk.Rd_keep ax0 (fun k hk => ⟨hk, hE k fun e => a6 (e ▸ mem_vblks hp hk)⟩) _ _ _ (h.rows p hp), h.refs, h.cur, hw, h.nodup, fun k hk => by rw [setMap_size]; exact h.lt k hk⟩
 obtain ⟨es', c', h2⟩ := h.vers
 exact ⟨es', c', h2.keep (hE m1 a3)⟩
theorem LiveAt.begin (h : LiveAt w x b m1 m2 ds) {k : Int} (hk : Lk.inR .i64 k) : ∃ es' c', (Instr.mapUpdate 70 (.map (some m2)) (.int .i64 k) (.int .i64 1)).run Tryz.prog w = .ok () (setMap w m2 es' c') ∧
  LiveAt (setMap w m2 es' c') { x with wr := put x.wr k 1 } b m1 m2 ds := by
 obtain ⟨es, c, hM⟩ := h.wri
 obtain ⟨es', c', h1, h2⟩ := hM.update Tryz.underlying70 Tryz.underlying3 k (.int .i64 1)
 rw [put_map (fun v => Value.int .i64 v) x.wr k 1] at h2
 refine ⟨es', c', h1, h.rewr h2 fun p hp => ?_⟩
 rcases mem_put hp with hp | rfl
 ·exact h.wrs p hp
 ·exact ⟨hk, inR_1⟩
theorem LiveAt.end_ (h : LiveAt w x b m1 m2 ds) (k : Int) : ∃ es' c', (∀ ty, (Builtin.delete_ #[70, 3] ty #[.map (some m2), .int .i64 k]).run Tryz.prog w = .ok (.tuple #[]) (setMap w m2 es' c')) ∧
  LiveAt (setMap w m2 es' c') { x with wr := Lv.del x.wr k } b m1 m2 ds := by
 obtain ⟨es, c, hM⟩ := h.wri
 obtain ⟨es', c', h1, h2⟩ := hM.delete Tryz.underlying70 Tryz.underlying3 k
 rw [del_map (fun v => Value.int .i64 v) x.wr k] at h2
 exact ⟨es', c', h1, h.rewr h2 fun p hp => h.wrs p (mem_del hp).1⟩
def wrOf (x : Lk.LiveS) (k : Int) : Int := (get x.wr k).getD 0
theorem LiveAt.lookW (h : LiveAt w x b m1 m2 ds) (k : Int) : (Instr.lookup 70 (.map (some m2)) (.int .i64 k) false).run Tryz.prog w = .ok (.int .i64 (wrOf x k)) w := by
 obtain ⟨es, c, hM⟩ := h.wri
 have hL := hM.lookup Tryz.underlying70 Tryz.underlying3 (zero3 w) k
 rw [get_map (fun v => Value.int .i64 v)] at hL
 unfold wrOf
 cases hg : get x.wr k with
 | none => rw [hg] at hL; exact hL
 | some v => rw [hg] at hL; exact hL
theorem LiveAt.setCur (h : LiveAt w x b m1 m2 ds) {n : Int} (hn : Lk.inR .i64 n) : LiveAt (w.setCell ⟨b, 1, none⟩ (.int .i64 n)) { x with cur := n } b m1 m2 ds := by
 obtain ⟨a1, a2, a3, a4, a5, a6⟩ := h.apart
 obtain ⟨ty, hh⟩ := h.head
 have hE : ∀ k, k ≠ b → (w.setCell ⟨b, 1, none⟩ (.int .i64 n)).heap[k]? = w.heap[k]? := fun k hk => Below.heap_setCell w _ _ k fun e => hk e
 have hsz : (w.setCell ⟨b, 1, none⟩ (.int .i64 n)).heap.size = w.heap.size := by simp [World.setCell]
 refine ⟨⟨ty, ?_⟩, ?_, ?_, h.vs, fun p hp => Lk.Rd_keep ax0 (fun k hk => ⟨hk, hE k fun e => a4 (e ▸ mem_vblks hp hk)⟩) _ _ _ (h.rows p hp), h.refs, hn, h.wrs, h.nodup, fun k hk => by rw [hsz]; exact h.lt k hk⟩
 ·unfold World.setCell
  rw [Array.getElem?_modify, if_pos rfl, hh]
  rfl
 ·obtain ⟨es', c', h2⟩ := h.vers
  exact ⟨es', c', h2.keep (hE m1 (Ne.symm a1))⟩
 ·obtain ⟨es', c', h2⟩ := h.wri
  exact ⟨es', c', h2.keep (hE m2 (Ne.symm a2))⟩
theorem LiveAt.ext {w' : World} (h : LiveAt w x b m1 m2 ds) (hE : Lk.Ext [] w w') : LiveAt w' x b m1 m2 ds := h.keep fun k hk => hE.block k (h.lt k hk) (by simp)
end
end Lv
end
section
/-! A set of versions: the calls that turn it. -/
namespace Lv
open Go Go.RowKit Go.Proofs
theorem wpList_delete_run {P : Program} {ops : Array Oper} {rest : List Oper} {o : Oper} {a : Act} {Q : Exit → Act → World → Prop} {w : World} (hg : o.guard = none) (p q : Operand) (t t2 : TypeId) (hop : o.op = Op.call { callee := Callee.builtin Builtin.delete, args := #[p, q], argTypes := #[t, t2] })
  {v1 v2 v' : Value} {w' : World} (h1 : a.eval p = v1) (h2 : a.eval q = v2) (oT : TypeId) (hT : o.type = oT) (hrun : (Builtin.delete_ #[t, t2] oT #[v1, v2]).run P w = .ok v' w') (hK : wpList P ops Q rest (a.put o.dst v') w') :
  wpList P ops Q (o :: rest) a w := by
 refine wpList_plain hg fun K' hK' => ?_
 subst hT
 unfold Oper.wp
 simp [execOp, hop, resolve, invoke, builtin, h1, h2, hrun, Result.andThen]
 exact hK' _ _ hK
def DidL (w w' : World) (b m1 m2 : Nat) (ds : List (Int × Ver)) (x' : Lk.LiveS) : Prop :=
 ∃ ds', LiveAt w' x' b m1 m2 ds' ∧ Lk.Ext (b :: m1 :: m2 :: vblks ds) w w' ∧ ∀ q ∈ vblks ds', q ∈ vblks ds ∨ w.heap.size ≤ q
theorem DidL.after {w w1 w2 : World} {b m1 m2 : Nat} {ds ds1 : List (Int × Ver)} {x' : Lk.LiveS} (hE : Lk.Ext (b :: m1 :: m2 :: vblks ds) w w1) (hs : ∀ q ∈ vblks ds1, q ∈ vblks ds ∨ w.heap.size ≤ q) (h : DidL w1 w2 b m1 m2 ds1 x') : DidL w w2 b m1 m2 ds x' := by
 obtain ⟨ds', h1, h2, h3⟩ := h
 have := hE.size
 refine ⟨ds', h1, ext_tr hE h2 fun k hk => ?_, fun q hq => ?_⟩
 ·simp only [List.mem_cons] at hk ⊢
  rcases hk with rfl | rfl | rfl | hk
  ·exact .inl (.inl rfl)
  ·exact .inl (.inr (.inl rfl))
  ·exact .inl (.inr (.inr (.inl rfl)))
  ·rcases hs k hk with h | h
   ·exact .inl (.inr (.inr (.inr h)))
   ·exact .inr h
 ·rcases h3 q hq with h | h
  ·exact hs q h
  ·exact .inr (by omega)
def tidyS (x : Lk.LiveS) (k : Int) : Lk.LiveS := bif !(k == x.cur) && refsOf x k == 0 then { x with vs := del x.vs k } else x
section
variable (w : World) (x : Lk.LiveS) (b m1 m2 : Nat) (ds : List (Int × Ver))
theorem ext_map1 (es : Array MapEntry) (c : Nat) : Lk.Ext (b :: m1 :: m2 :: vblks ds) w (setMap w m1 es c) := ext_setMap (.inl (by simp)) (ext_refl _ _) _ _
theorem ext_map2 (es : Array MapEntry) (c : Nat) : Lk.Ext (b :: m1 :: m2 :: vblks ds) w (setMap w m2 es c) := ext_setMap (.inl (by simp)) (ext_refl _ _) _ _
set_option maxHeartbeats 1000000 in
set_option maxRecDepth 100000 in
theorem tidy_any (h : LiveAt w x b m1 m2 ds) (k : Int) : Calls Tryz.prog 66 #[.pointer (some ⟨b, 0, none⟩), .int .i64 k] w fun e w' => e = .returned (.tuple #[]) ∧ DidL w w' b m1 m2 ds (tidyS x k) := by
 obtain ⟨h0, h1, _⟩ := h.cells
 obtain ⟨lv, bs, hL, hR, _⟩ := h.look k
 obtain ⟨a, c, rfl, _⟩ := rd_levels hR
 replace hL := (hL w (fun _ _ => rfl)).1
 have hF := field_refs
 by_cases hk : k = x.cur
 ·have hT : tidyS x k = x := by unfold tidyS; rw [hk]; simp
  rw [hT]
  have hD : DidL w w b m1 m2 ds x := ⟨ds, h, ext_refl _ _, fun q hq => .inl hq⟩
  have hk' : (k == x.cur) = true := by simpa using hk
  clear h hR hT
  go_enter Tryz.func66, Tryz.ntmps66
  go_wp2
  go_end0
  exact ⟨rfl, hD⟩
 ·have hk' : (k == x.cur) = false := by simpa using hk
  by_cases hr : refsOf x k = 0
  ·have hT : tidyS x k = { x with vs := del x.vs k } := by unfold tidyS; rw [hk', hr]; rfl
   rw [hT]
   obtain ⟨es', c', hdel, hA⟩ := h.del k
   have hD : DidL w (setMap w m1 es' c') b m1 m2 ds { x with vs := del x.vs k } := ⟨_, hA, ext_map1 _ _ _ _ _ _ _, fun q hq => .inl ((vblks_filter _).subset hq)⟩
   have hr' : (refsOf x k == 0) = true := by simpa using hr
   clear h hR hT hA
   go_enter Tryz.func66, Tryz.ntmps66
   go_wp2_with (at_delete; refine wpList_delete_run rfl _ _ _ _ rfl rfl rfl _ rfl (hdel _) ?_)
   go_end0
   exact ⟨rfl, hD⟩
  ·have hr' : (refsOf x k == 0) = false := by simpa using hr
   have hT : tidyS x k = x := by unfold tidyS; rw [hr']; simp
   rw [hT]
   have hD : DidL w w b m1 m2 ds x := ⟨ds, h, ext_refl _ _, fun q hq => .inl hq⟩
   clear h hR hT
   go_enter Tryz.func66, Tryz.ntmps66
   go_wp2
   go_end0
   exact ⟨rfl, hD⟩
end
end Lv
end
section
/-! A set of versions: turned, held. -/
namespace Lv
open Go Go.RowKit Go.Proofs
def turnS (x : Lk.LiveS) (k by_ : Int) : Lk.LiveS := tidyS { x with vs := put x.vs k (levelsOf x k, refsOf x k + by_) } k
theorem there {w : World} {x : Lk.LiveS} {b m1 m2 : Nat} {ds : List (Int × Ver)} (h : LiveAt w x b m1 m2 ds) {k : Int} (hk : has x.vs k = true) : ∃ v0 : Ver, get ds k = some v0 ∧ levelsOf x k = v0.1.1 ∧ refsOf x k = v0.1.2 := by
 rw [h.has_vs, has_get, Option.isSome_iff_exists] at hk
 obtain ⟨v0, hv⟩ := hk
 have := h.get_vs k
 rw [hv] at this
 exact ⟨v0, hv, by unfold levelsOf; rw [this]; rfl, by unfold refsOf; rw [this]; rfl⟩
theorem var_cells (w : World) (u : Value) (r : Int) : ((w.alloc (.cells #[u, .int .i64 r] 68)).cell? ⟨w.heap.size, 0, none⟩ = some u ∧
  (w.alloc (.cells #[u, .int .i64 r] 68)).cell? ⟨w.heap.size, 1, none⟩ = some (.int .i64 r)) ∧ Lk.Ext [] w (w.alloc (.cells #[u, .int .i64 r] 68)) := by
 have hn := alloc_new w (.cells #[u, .int .i64 r] 68)
 refine ⟨?_, ext_alloc (ext_refl _ _) _⟩
 unfold World.cell?
 rw [hn]
 exact ⟨rfl, rfl⟩
section
variable (w : World) (x : Lk.LiveS) (b m1 m2 : Nat) (ds : List (Int × Ver))
set_option maxHeartbeats 1000000 in
set_option maxRecDepth 100000 in
theorem turn_any (h : LiveAt w x b m1 m2 ds) (k by_ : Int) (hk : has x.vs k = true) (h1 : -9223372036854775808 ≤ refsOf x k + by_) (h2 : refsOf x k + by_ ≤ 9223372036854775807) :
  Calls Tryz.prog 50 #[.pointer (some ⟨b, 0, none⟩), .int .i64 k, .int .i64 by_] w fun e w' => e = .returned (.tuple #[]) ∧ DidL w w' b m1 m2 ds (turnS x k by_) := by
 obtain ⟨h0, _, _⟩ := h.cells
 obtain ⟨lv, bs, hL, hR, _, _, hlb⟩ := h.look k
 obtain ⟨v0, hv0, e1, e2⟩ := there h hk
 obtain ⟨hlv, _⟩ := hlb v0 hv0
 obtain ⟨a, c, rfl, _⟩ := rd_levels hR
 replace hL := (hL w (fun _ _ => rfl)).1
 have hwr : IntKind.i64.wrap (refsOf x k + by_) = refsOf x k + by_ := Lk.wrap64 h1 h2
 obtain ⟨⟨c0, c1⟩, hE⟩ := var_cells w (.slice a (levelsOf x k).length c) (refsOf x k + by_)
 have hA := h.ext hE
 have hT : ∀ W : World, LiveAt W x b m1 m2 ds → ∃ es' c', (Instr.mapUpdate 69 (.map (some m1)) (.int .i64 k) (.agg #[.slice a (levelsOf x k).length c, .int .i64 (refsOf x k + by_)])).run Tryz.prog W = .ok () (setMap W m1 es' c') ∧
   ∃ ds1, LiveAt (setMap W m1 es' c') { x with vs := put x.vs k (levelsOf x k, refsOf x k + by_) } b m1 m2 ds1 ∧ ∀ q ∈ vblks ds1, q ∈ vblks ds := by
  intro W hW
  obtain ⟨es', c', g1, g2⟩ := hW.turn hv0 (r := refsOf x k + by_) ⟨h1, h2⟩
  rw [← hlv] at g1
  refine ⟨es', c', g1, _, by rw [e1]; exact g2, ?_⟩
  have hvp := vblks_put (v := ((v0.1.1, refsOf x k + by_), v0.2)) h.unlike hv0 rfl
  intro q hq
  rw [hvp] at hq
  exact hq
 have htidy := fun W x1 ds1 (g : LiveAt W x1 b m1 m2 ds1) => tidy_any W x1 b m1 m2 ds1 g k
 clear e1 e2 hv0 hlv h hR hlb
 go_enter Tryz.func50, Tryz.ntmps50
 go_wp2
 generalize w.alloc (.cells #[.slice a (levelsOf x k).length c, .int .i64 (refsOf x k + by_)] 68) = W at *
 obtain ⟨g0, _, _⟩ := hA.cells
 go_still_tail 6, (by kernel_rfl)
 have hB := hA.keep (w' := ({ W with drawn := W.drawn + 1 } : World)) fun _ _ => rfl
 replace hE := ext_drew hE (W.drawn + 1)
 generalize ({ W with drawn := W.drawn + 1 } : World) = W2 at *
 obtain ⟨es', c', hU, ds1, hD1, hs1⟩ := hT W2 hB
 have htd := htidy _ _ _ hD1
 clear hT htidy
 go_wp2_with (go_at_call 66; refine htd.mono ?_; rintro e w3 ⟨rfl, hD⟩)
 go_end0
 refine ⟨rfl, ?_⟩
 exact DidL.after (ext_setMap (.inl (by simp)) (ext_more hE (by simp)) _ _) (fun q hq => .inl (hs1 q hq)) hD
set_option maxHeartbeats 1000000 in
set_option maxRecDepth 100000 in
theorem hold_any (h : LiveAt w x b m1 m2 ds) (hk : has x.vs x.cur = true) (h1 : -9223372036854775808 ≤ refsOf x x.cur + 1) (h2 : refsOf x x.cur + 1 ≤ 9223372036854775807) :
  Calls Tryz.prog 27 #[.pointer (some ⟨b, 0, none⟩)] w fun e w' => e = .returned (.int .i64 (turnS x x.cur 1).cur) ∧ DidL w w' b m1 m2 ds (turnS x x.cur 1) := by
 obtain ⟨h0, g1, _⟩ := h.cells
 have hN := none_any w x b m1 m2 ds h
 have hT := turn_any w x b m1 m2 ds h x.cur 1 hk h1 h2
 generalize turnS x x.cur 1 = y at *
 clear h hk h1 h2
 go_enter Tryz.func27, Tryz.ntmps27
 go_wp2_with (first | (go_at_call 49; refine hN.mono ?_; rintro e w2 ⟨rfl, hw⟩; replace hw := hw.symm; subst hw) | (go_at_call 50; refine hT.mono ?_; rintro e w2 ⟨rfl, hD⟩; obtain ⟨ds', hD1, hD2, hD3⟩ := hD; obtain ⟨_, k1, _⟩ := hD1.cells))
 go_ret
 exact ⟨rfl, ds', hD1, hD2, hD3⟩
set_option maxHeartbeats 1000000 in
set_option maxRecDepth 100000 in
theorem drop_none (h : LiveAt w x b m1 m2 ds) (k : Int) (hr : (refsOf x k == 0) = true) :
  Calls Tryz.prog 18 #[.pointer (some ⟨b, 0, none⟩), .int .i64 k] w fun e w' => e = .returned (.int .i64 180) ∧ w' = w := by
 obtain ⟨h0, _, _⟩ := h.cells
 obtain ⟨lv, bs, hL, hR, _⟩ := h.look k
 obtain ⟨a, c, rfl, _⟩ := rd_levels hR
 replace hL := (hL w (fun _ _ => rfl)).1
 have hF := field_refs
 have hN := none_any w x b m1 m2 ds h
 clear h hR
 go_enter Tryz.func18, Tryz.ntmps18
 go_wp2_with (go_at_call 49; refine hN.mono ?_; rintro e w2 ⟨rfl, hw⟩; replace hw := hw.symm; subst hw)
 go_ret
 exact ⟨rfl, rfl⟩
set_option maxHeartbeats 1000000 in
set_option maxRecDepth 100000 in
theorem drop_any (h : LiveAt w x b m1 m2 ds) (k : Int) (hr : (refsOf x k == 0) = false) (hk : has x.vs k = true) (h1 : -9223372036854775808 ≤ refsOf x k + -1) (h2 : refsOf x k + -1 ≤ 9223372036854775807) :
  Calls Tryz.prog 18 #[.pointer (some ⟨b, 0, none⟩), .int .i64 k] w fun e w' => e = .returned (.int .i64 0) ∧ DidL w w' b m1 m2 ds (turnS x k (-1)) := by
 obtain ⟨h0, _, _⟩ := h.cells
 obtain ⟨lv, bs, hL, hR, _⟩ := h.look k
 obtain ⟨a, c, rfl, _⟩ := rd_levels hR
 replace hL := (hL w (fun _ _ => rfl)).1
 have hF := field_refs
 have hN := none_any w x b m1 m2 ds h
 have hT := turn_any w x b m1 m2 ds h k (-1) hk h1 h2
 generalize turnS x k (-1) = y at *
 clear h hk h1 h2 hR
 go_enter Tryz.func18, Tryz.ntmps18
 go_wp2_with (first | (go_at_call 49; refine hN.mono ?_; rintro e w2 ⟨rfl, hw⟩; replace hw := hw.symm; subst hw) | (go_at_call 50; refine hT.mono ?_; rintro e w2 ⟨rfl, hD⟩))
 go_ret
 exact ⟨rfl, hD⟩
end
end Lv
end
section
/-! A set of versions: the files that are written. -/
namespace Lv
open Go Go.RowKit Go.Proofs
section
variable (w : World) (x : Lk.LiveS) (b m1 m2 : Nat) (ds : List (Int × Ver))
set_option maxHeartbeats 1000000 in
set_option maxRecDepth 100000 in
theorem begin_arg (h : LiveAt w x b m1 m2 ds) (k : Int) (hk : k < 1 ∨ 2147483647 < k) :
  Calls Tryz.prog 38 #[.pointer (some ⟨b, 0, none⟩), .int .i64 k] w fun e w' => e = .returned (.int .i64 2) ∧ w' = w := by
 obtain ⟨h0, _, g2⟩ := h.cells
 have hN := none_any w x b m1 m2 ds h
 clear h
 by_cases h1 : k < 1
 ·go_enter Tryz.func38, Tryz.ntmps38
  go_wp2_with (go_at_call 49; refine hN.mono ?_; rintro e w2 ⟨rfl, hw⟩; replace hw := hw.symm; subst hw)
  go_ret
  exact ⟨rfl, rfl⟩
 ·have h2 : 2147483647 < k := by omega
  go_enter Tryz.func38, Tryz.ntmps38
  go_wp2_with (go_at_call 49; refine hN.mono ?_; rintro e w2 ⟨rfl, hw⟩; replace hw := hw.symm; subst hw)
  go_ret
  exact ⟨rfl, rfl⟩
set_option maxHeartbeats 1000000 in
set_option maxRecDepth 100000 in
theorem begin_there (h : LiveAt w x b m1 m2 ds) (k : Int) (h1 : ¬ k < 1) (h2 : ¬ 2147483647 < k) (hk : 0 < wrOf x k) :
  Calls Tryz.prog 38 #[.pointer (some ⟨b, 0, none⟩), .int .i64 k] w fun e w' => e = .returned (.int .i64 81) ∧ w' = w := by
 obtain ⟨h0, _, g2⟩ := h.cells
 have hN := none_any w x b m1 m2 ds h
 have hL := h.lookW k
 clear h
 go_enter Tryz.func38, Tryz.ntmps38
 go_wp2_with (go_at_call 49; refine hN.mono ?_; rintro e w2 ⟨rfl, hw⟩; replace hw := hw.symm; subst hw)
 go_ret
 exact ⟨rfl, rfl⟩
set_option maxHeartbeats 1000000 in
set_option maxRecDepth 100000 in
theorem begin_any (h : LiveAt w x b m1 m2 ds) (k : Int) (h1 : ¬ k < 1) (h2 : ¬ 2147483647 < k) (hk : ¬ 0 < wrOf x k) :
  Calls Tryz.prog 38 #[.pointer (some ⟨b, 0, none⟩), .int .i64 k] w fun e w' => e = .returned (.int .i64 0) ∧ DidL w w' b m1 m2 ds { x with wr := put x.wr k 1 } := by
 obtain ⟨h0, _, g2⟩ := h.cells
 have hN := none_any w x b m1 m2 ds h
 have hL := h.lookW k
 obtain ⟨es', c', hU, hA⟩ := h.begin (k := k) ⟨by show -9223372036854775808 ≤ k; omega, by show k ≤ 9223372036854775807; omega⟩
 have hD : DidL w (setMap w m2 es' c') b m1 m2 ds { x with wr := put x.wr k 1 } := ⟨_, hA, ext_map2 _ _ _ _ _ _ _, fun q hq => .inl hq⟩
 clear h hA
 go_enter Tryz.func38, Tryz.ntmps38
 go_wp2_with (go_at_call 49; refine hN.mono ?_; rintro e w2 ⟨rfl, hw⟩; replace hw := hw.symm; subst hw)
 go_ret
 exact ⟨rfl, hD⟩
set_option maxHeartbeats 1000000 in
set_option maxRecDepth 100000 in
theorem end_none (h : LiveAt w x b m1 m2 ds) (k : Int) (hk : (wrOf x k == 0) = true) :
  Calls Tryz.prog 19 #[.pointer (some ⟨b, 0, none⟩), .int .i64 k] w fun e w' => e = .returned (.int .i64 51) ∧ w' = w := by
 obtain ⟨h0, _, g2⟩ := h.cells
 have hN := none_any w x b m1 m2 ds h
 have hL := h.lookW k
 clear h
 go_enter Tryz.func19, Tryz.ntmps19
 go_wp2_with (go_at_call 49; refine hN.mono ?_; rintro e w2 ⟨rfl, hw⟩; replace hw := hw.symm; subst hw)
 go_ret
 exact ⟨rfl, rfl⟩
set_option maxHeartbeats 1000000 in
set_option maxRecDepth 100000 in
theorem end_any (h : LiveAt w x b m1 m2 ds) (k : Int) (hk : (wrOf x k == 0) = false) :
  Calls Tryz.prog 19 #[.pointer (some ⟨b, 0, none⟩), .int .i64 k] w fun e w' => e = .returned (.int .i64 0) ∧ DidL w w' b m1 m2 ds { x with wr := del x.wr k } := by
 obtain ⟨h0, _, g2⟩ := h.cells
 have hN := none_any w x b m1 m2 ds h
 have hL := h.lookW k
 obtain ⟨es', c', hdel, hA⟩ := h.end_ k
 have hD : DidL w (setMap w m2 es' c') b m1 m2 ds { x with wr := del x.wr k } := ⟨_, hA, ext_map2 _ _ _ _ _ _ _, fun q hq => .inl hq⟩
 clear h hA
 go_enter Tryz.func19, Tryz.ntmps19
 go_wp2_with (first | (go_at_call 49; refine hN.mono ?_; rintro e w2 ⟨rfl, hw⟩; replace hw := hw.symm; subst hw) | (at_delete; refine wpList_delete_run rfl _ _ _ _ rfl rfl rfl _ rfl (hdel _) ?_))
 go_ret
 exact ⟨rfl, hD⟩
end
end Lv
end
section
/-! A set of versions: a new one. -/
namespace Lv
open Go Go.RowKit Go.Proofs
theorem own_rdQ {τ τ' : Lk.Ax} {S Sb : Nat → Prop} {w : World} {x : Levels} {sh : Lk.Sh LvT} (h : Lk.hold τ S Sb w LvT (.o (.o FQ)) x sh) :
  Lk.Rd τ' (fun k => k ∈ Lk.bl LvT (.o (.o FQ)) x sh) w LvT x [sh.hd] := by
 refine row_rd h fun i y z hy hz h1 => ?_
 refine row_rd h1 fun j u v hu hv h2 => ?_
 exact rd_tau (τ := τ) FT _ _ rfl (by rw [cells_tau (τ := τ') (τ' := τ)]; exact Lk.flat_rd FT FQ u v rfl rfl h2)
theorem NewRow.rd {w w' : World} {x : Levels} {v : Value} (h : NewRow w w' (.l FT) (.o FQ) x v) : ∃ (bs : List Nat) (a : Option Addr) (c : Nat), v = .slice a (List.length x) c ∧ Lk.Rd ax0 (fun k => k ∈ bs) w' LvT x [v] ∧ Lk.Ext [] w w' ∧ bs.Nodup ∧ ∀ k ∈ bs, w.heap.size ≤ k ∧ k < w'.heap.size := by
 obtain ⟨sh, rfl, h1, h2, h3, h4⟩ := h
 have hr := own_rdQ (τ' := ax0) (h1 ax0 (fun _ => False) (fun _ => False))
 obtain ⟨a, c, e, _⟩ := rd_levels hr
 exact ⟨_, a, c, e, hr, h2, h3, h4⟩
theorem new_at {w1 w3 : World} {es : Array MapEntry} {cl : Nat} {lv : Levels} {val : Value} {bs : List Nat} (hE : Lk.Ext [] (w1.alloc (.map #[] 0)) w3)
  (hM : MapAt (setMap w3 w1.heap.size es cl) w1.heap.size es cl [((1 : Int), Value.agg #[val, .int .i64 0])]) (hR : Lk.Rd ax0 (fun k => k ∈ bs) w3 LvT lv [val]) (hn : bs.Nodup) (hlt : ∀ k ∈ bs, w1.heap.size + 1 ≤ k ∧ k < w3.heap.size) :
  LiveAt (((setMap w3 w1.heap.size es cl).alloc (.map #[] 0)).alloc (.cells #[.map (some w1.heap.size), .int .i64 1, .map (some w3.heap.size)] 72)) ⟨[(1, (lv, 0))], 1, []⟩ (w3.heap.size + 1) w1.heap.size w3.heap.size [(1, ((lv, 0), (val, bs)))] ∧
   Lk.Ext [] w1 (((setMap w3 w1.heap.size es cl).alloc (.map #[] 0)).alloc (.cells #[.map (some w1.heap.size), .int .i64 1, .map (some w3.heap.size)] 72)) := by
 have hs := hE.size
 rw [alloc_size] at hs
 have e1 : (setMap w3 w1.heap.size es cl).heap.size = w3.heap.size := setMap_size
 have e2 : ((setMap w3 w1.heap.size es cl).alloc (.map #[] 0)).heap.size = w3.heap.size + 1 := by rw [alloc_size, e1]
 let W := ((setMap w3 w1.heap.size es cl).alloc (.map #[] 0)).alloc (.cells #[.map (some w1.heap.size), .int .i64 1, .map (some w3.heap.size)] 72)
 have e3 : W.heap.size = w3.heap.size + 2 := by show (World.alloc _ _).heap.size = _; rw [alloc_size, e2]
 have old : ∀ k, k < w3.heap.size → W.heap[k]? = (setMap w3 w1.heap.size es cl).heap[k]? := fun k hk => by
  show (World.alloc _ _).heap[k]? = _
  rw [alloc_lt _ _ (by rw [e2]; omega), alloc_lt _ _ (by rw [e1]; omega)]
 have hE2 : Lk.Ext [] w1 W := by
  refine ext_alloc (ext_alloc (ext_setMap (.inr (Nat.le_refl _)) (ext_tr (ext_alloc (ext_refl _ _) (.map #[] 0)) hE (by simp)) _ _) _) _
 refine ⟨⟨⟨72, ?_⟩, ⟨es, cl, hM.keep (old _ (by omega))⟩, ⟨#[], 0, ?_, rfl, MapKept.stamped_empty 0⟩, rfl, fun p hp => ?_, fun p hp => ?_, inR_1, fun p hp => (by cases hp), ?_, fun k hk => ?_⟩, hE2⟩
 ·have := alloc_new ((setMap w3 w1.heap.size es cl).alloc (.map #[] 0)) (.cells #[.map (some w1.heap.size), .int .i64 1, .map (some w3.heap.size)] 72)
  rw [e2] at this
  exact this
 ·have := alloc_new (setMap w3 w1.heap.size es cl) (.map #[] 0)
  rw [e1] at this
  show (World.alloc _ _).heap[w3.heap.size]? = _
  rw [alloc_lt _ _ (by rw [e2]; omega)]
  exact this
 ·obtain rfl := List.mem_singleton.1 hp
  exact Lk.Rd_keep ax0 (fun k hk => ⟨hk, by
   have := hlt k hk
   show W.heap[k]? = _
   rw [old k this.2, setMap_other (by omega)]⟩) _ _ _ hR
 ·obtain rfl := List.mem_singleton.1 hp
  exact inR_0
 ·have hv : vblks [((1 : Int), (((lv, 0), (val, bs)) : Ver))] = bs := by simp [vblks]
  rw [hv]
  simp only [List.nodup_cons, List.mem_cons, not_or]
  refine ⟨⟨by omega, by omega, fun h => ?_⟩, ⟨by omega, fun h => ?_⟩, fun h => ?_, hn⟩
  ·have := hlt _ h; omega
  ·have := hlt _ h; omega
  ·have := hlt _ h; omega
 ·have hv : vblks [((1 : Int), (((lv, 0), (val, bs)) : Ver))] = bs := by simp [vblks]
  rw [hv] at hk
  show k < W.heap.size
  rw [e3]
  simp only [List.mem_cons] at hk
  rcases hk with rfl | rfl | rfl | hk
  ·omega
  ·omega
  ·omega
  ·have := hlt _ hk; omega
theorem new_map {w1 w3 : World} (hE : Lk.Ext [] (w1.alloc (.map #[] 0)) w3) (val : Value) : ∃ es cl, (Instr.mapUpdate 69 (.map (some w1.heap.size)) (.int .i64 1) val).run Tryz.prog w3 = .ok () (setMap w3 w1.heap.size es cl) ∧ MapAt (setMap w3 w1.heap.size es cl) w1.heap.size es cl [((1 : Int), val)] := by
 have h0 : MapAt (w1.alloc (.map #[] 0)) w1.heap.size #[] 0 [] := ⟨alloc_new _ _, rfl, MapKept.stamped_empty 0⟩
 have h1 : MapAt w3 w1.heap.size #[] 0 [] := h0.keep (hE.block _ (by rw [alloc_size]; omega) (by simp))
 obtain ⟨es, cl, hU, hM⟩ := h1.update Tryz.underlying69 Tryz.underlying3 1 val
 exact ⟨es, cl, hU, hM⟩
section
variable (w : World)
theorem new_not {τ : Lk.Ax} {S : Nat → Prop} (lv : Levels) (v : Value) (hr : Lk.Rd τ S w LvT lv [v]) (hS : ∀ k, S k → k < w.heap.size) (hv : validM lv = false) :
  Calls Tryz.prog 7 #[v] w fun e w' => e = .returned (.pointer none) ∧ Lk.Ext [] w w' := by
 have hV := valid_any w lv v hr hS
 rw [hv] at hV
 clear hr
 go_enter Tryz.func7, Tryz.ntmps7
 go_wp2_with (go_at_call 14; refine hV.mono ?_; rintro e w2 ⟨rfl, hE⟩)
 go_ret
 exact ⟨rfl, hE⟩
set_option maxHeartbeats 1000000 in
set_option maxRecDepth 100000 in
theorem new_any {τ : Lk.Ax} {S : Nat → Prop} (lv : Levels) (v : Value) (hr : Lk.Rd τ S w LvT lv [v]) (hS : ∀ k, S k → k < w.heap.size) (hv : validM lv = true) (hx : smallL lv = true) :
  Calls Tryz.prog 7 #[v] w fun e w' => ∃ b m1 m2 ds, e = .returned (.pointer (some ⟨b, 0, none⟩)) ∧ LiveAt w' ⟨[(1, (lv, 0))], 1, []⟩ b m1 m2 ds ∧ Lk.Ext [] w w' ∧ ∀ q ∈ b :: m1 :: m2 :: vblks ds, w.heap.size ≤ q := by
 have hmm := @run_makeMap Tryz.prog
 have hV := valid_any w lv v hr hS
 rw [hv] at hV
 have hC := fun (w2 : World) (hE : Lk.Ext [] w w2) => copied_any (τ := τ) w2 lv v (Lk.Rd_keep τ (w' := w2) (fun k hk => ⟨hk, hE.block k (hS k hk) (by simp)⟩) _ _ _ hr) (fun k hk => by have := hS k hk; have := hE.size; omega) hx
 clear hr hS
 go_enter Tryz.func7, Tryz.ntmps7
 go_wp2_with (first | (go_at_call 14; refine hV.mono ?_; rintro e w1 ⟨rfl, hE⟩) | (go_at_call 31; refine (hC _ (ext_alloc hE _)).mono ?_; rintro e w3 ⟨v', rfl, hN⟩; obtain ⟨bs, a', c', rfl, hR, hE3, hn, hlt⟩ := hN.rd; clear hN hC; obtain ⟨es, cl, hU, hM⟩ := new_map hE3 (.agg #[.slice a' lv.length c', .int .i64 0])))
 have hsz := hE3.size
 rw [alloc_size] at hsz
 have hsz1 := hE.size
 have hlt' : ∀ k ∈ bs, w1.heap.size + 1 ≤ k ∧ k < w3.heap.size := fun k hk => by
  have := hlt k hk
  rw [alloc_size] at this
  exact this
 obtain ⟨k1, k2⟩ := new_at hE3 hM hR hn hlt'
 have hz : (setMap w3 w1.heap.size es cl).heap.size = w3.heap.size := setMap_size
 go_ret
 rw [hz]
 refine ⟨_, _, _, _, rfl, k1, ext_tr hE k2 (by simp), fun q hq => ?_⟩
 have hv : vblks [((1 : Int), (((lv, 0), (.slice a' lv.length c', bs)) : Ver))] = bs := by simp [vblks]
 rw [hv] at hq
 simp only [List.mem_cons] at hq
 rcases hq with rfl | rfl | rfl | hq
 ·omega
 ·omega
 ·omega
 ·have := hlt' q hq; omega
end
end Lv
end
section
/-! A set of versions: another version. -/
namespace Lv
open Go Go.RowKit Go.Proofs
theorem LiveAt.frozen1 {w : World} {x : Lk.LiveS} {b m1 m2 : Nat} {ds : List (Int × Ver)} (h : LiveAt w x b m1 m2 ds) : w.frozen? ⟨b, 1, none⟩ = false := by
 obtain ⟨ty, hh⟩ := h.head
 unfold World.frozen?
 simp [hh]
def installS (x : Lk.LiveS) (lv : Levels) : Lk.LiveS := tidyS { x with cur := x.cur + 1, vs := put x.vs (x.cur + 1) (lv, 0) } x.cur
section
variable (w : World) (x : Lk.LiveS) (b m1 m2 : Nat) (ds : List (Int × Ver))
theorem install_not (h : LiveAt w x b m1 m2 ds) {τ : Lk.Ax} {S : Nat → Prop} (lv : Levels) (v : Value) (hr : Lk.Rd τ S w LvT lv [v]) (hS : ∀ k, S k → k < w.heap.size) (hv : validM lv = false) :
  Calls Tryz.prog 33 #[.pointer (some ⟨b, 0, none⟩), v] w fun e w' => e = .returned (.int .i64 0) ∧ Lk.Ext [] w w' := by
 have hN := none_any w x b m1 m2 ds h
 have hV := valid_any w lv v hr hS
 rw [hv] at hV
 clear hr h
 go_enter Tryz.func33, Tryz.ntmps33
 go_wp2_with (first | (go_at_call 49; refine hN.mono ?_; rintro e w2 ⟨rfl, hw⟩; replace hw := hw.symm; subst hw) | (go_at_call 14; refine hV.mono ?_; rintro e w2 ⟨rfl, hE⟩))
 go_ret
 exact ⟨rfl, hE⟩
theorem install_more {W w3 : World} {y : Lk.LiveS} {lv : Levels} {v' : Value} (h : LiveAt W y b m1 m2 ds) (hN : NewRow W.drew w3 (.l FT) (.o FQ) lv v') (hk : has y.vs y.cur = false) :
  ∃ a c, v' = .slice a (List.length lv) c ∧ w3.cell? ⟨b, 0, none⟩ = some (.map (some m1)) ∧ w3.cell? ⟨b, 1, none⟩ = some (.int .i64 y.cur) ∧
   ∃ es' c', (Instr.mapUpdate 69 (.map (some m1)) (.int .i64 y.cur) (.agg #[.slice a (List.length lv) c, .int .i64 0])).run Tryz.prog w3 = .ok () (setMap w3 m1 es' c') ∧
    ∃ ds1, LiveAt (setMap w3 m1 es' c') { y with vs := put y.vs y.cur (lv, 0) } b m1 m2 ds1 ∧ Lk.Ext (b :: m1 :: m2 :: vblks ds) W (setMap w3 m1 es' c') ∧ ∀ q ∈ vblks ds1, q ∈ vblks ds ∨ W.heap.size ≤ q := by
 obtain ⟨bs, a, c, rfl, hR, hE, hn, hlt⟩ := hN.rd
 have hE' : Lk.Ext [] W w3 := ext_tr (ext_drew (ext_refl _ _) _ : Lk.Ext [] W W.drew) hE (by simp)
 have hA := h.ext hE'
 obtain ⟨g0, g1, _⟩ := hA.cells
 have hk' : has ds y.cur = false := by rw [← h.has_vs]; exact hk
 have hsz : W.drew.heap.size = W.heap.size := rfl
 obtain ⟨es', c', hU, hD⟩ := hA.more hk' hR hn (fun q hq => ⟨(hlt q hq).2, fun hm => by have := h.lt q hm; have := (hlt q hq).1; omega⟩)
 refine ⟨a, c, rfl, g0, g1, es', c', hU, _, hD, ext_setMap (.inl (by simp)) (ext_more hE' (by simp)) _ _, fun q hq => ?_⟩
 have hv : vblks (put ds y.cur (((lv, 0), (.slice a (List.length lv) c, bs)) : Ver)) = vblks ds ++ bs := by
  unfold put
  rw [hk', cond_false]
  simp [vblks]
 rw [hv] at hq
 rcases List.mem_append.1 hq with hq | hq
 ·exact .inl hq
 ·exact .inr (by have := (hlt q hq).1; omega)
set_option maxHeartbeats 2000000 in
set_option maxRecDepth 100000 in
theorem install_any (h : LiveAt w x b m1 m2 ds) {τ : Lk.Ax} {S : Nat → Prop} (lv : Levels) (v : Value) (hr : Lk.Rd τ S w LvT lv [v]) (hS : ∀ k, S k → k < w.heap.size ∧ k ∉ b :: m1 :: m2 :: vblks ds) (hv : validM lv = true) (hx : smallL lv = true)
  (hk : has x.vs (x.cur + 1) = false) (h1 : -9223372036854775808 ≤ x.cur + 1) (h2 : x.cur + 1 ≤ 9223372036854775807) :
  Calls Tryz.prog 33 #[.pointer (some ⟨b, 0, none⟩), v] w fun e w' => e = .returned (.int .i64 (installS x lv).cur) ∧ DidL w w' b m1 m2 ds (installS x lv) := by
 have hN := none_any w x b m1 m2 ds h
 have hV := valid_any w lv v hr fun k hk => (hS k hk).1
 rw [hv] at hV
 have hwr : IntKind.i64.wrap (x.cur + 1) = x.cur + 1 := Lk.wrap64 h1 h2
 obtain ⟨h0, g1, _⟩ := h.cells
 have hC := fun (W : World) (hE : ∀ k, k < w.heap.size → k ∉ b :: m1 :: m2 :: vblks ds → W.heap[k]? = w.heap[k]?) (hs : w.heap.size ≤ W.heap.size) => copied_any (τ := τ) W lv v (Lk.Rd_keep τ (w' := W) (fun k hk => ⟨hk, hE k (hS k hk).1 (hS k hk).2⟩) _ _ _ hr) (fun k hk => by have := (hS k hk).1; omega) hx
 go_enter Tryz.func33, Tryz.ntmps33
 go_wp2_with (first | (go_at_call 49; refine hN.mono ?_; rintro e w2 ⟨rfl, hw⟩; replace hw := hw.symm; subst hw) | (go_at_call 14; refine hV.mono ?_; rintro e w1 ⟨rfl, hE1⟩; have hA := h.ext hE1; obtain ⟨a0, a1, _⟩ := hA.cells; have hf := hA.frozen1))
 have hB := hA.setCur (n := x.cur + 1) ⟨h1, h2⟩
 have hE2 : Lk.Ext (b :: m1 :: m2 :: vblks ds) w (w1.setCell ⟨b, 1, none⟩ (.int .i64 (x.cur + 1))) := ext_setCell (.inl (by simp)) (ext_more hE1 (by simp)) _
 generalize w1.setCell ⟨b, 1, none⟩ (.int .i64 (x.cur + 1)) = W at *
 obtain ⟨b0, b1, _⟩ := hB.cells
 have hC' := hC W.drew (fun k hk hn => hE2.block k hk hn) hE2.size
 have hM := fun w3 v' (hN : NewRow W.drew w3 (.l FT) (.o FQ) lv v') => install_more b m1 m2 ds hB hN hk
 have hTd := fun w3 y1 ds1 (g : LiveAt w3 y1 b m1 m2 ds1) => tidy_any w3 y1 b m1 m2 ds1 g x.cur
 have b1' : W.cell? ⟨b, 1, none⟩ = some (.int .i64 (x.cur + 1)) := b1
 clear hC h0 g1 hN hV hA a0 a1 hf b1 h hB hr hS hk hv hx h1 h2 hwr
 go_region_held3 (fun W : World => W.cell? ⟨b, 0, none⟩ = some (.map (some m1)) ∧ W.cell? ⟨b, 1, none⟩ = some (.int .i64 (x.cur + 1))) (first | exact ⟨b0, b1'⟩ | exact ⟨s0, s1⟩ | go_keep) (first | (go_at_call 31; refine hC'.mono ?_; rintro e w3 ⟨v', rfl, hN2⟩; obtain ⟨a, c, rfl, r0, r1, es', c', hU, ds1, hD1, hE3, hs1⟩ := hM _ _ hN2; obtain ⟨s0, s1, _⟩ := hD1.cells))
 have htd := hTd _ _ _ hD1
 clear hTd hM hC'
 go_wp2_with (go_at_call 66; refine htd.mono ?_; rintro e w4 ⟨rfl, hD⟩; obtain ⟨ds', hF1, hF2, hF3⟩ := hD; obtain ⟨_, t1, _⟩ := hF1.cells)
 go_ret
 have hsz := hE2.size
 exact ⟨rfl, DidL.after (ext_tr hE2 hE3 fun k hk => .inl hk) (fun q hq => (hs1 q hq).imp id fun h => by omega) ⟨ds', hF1, hF2, hF3⟩⟩
end
end Lv
end
section
/-! A set of versions: the tables that are needed: the loops. -/
namespace Lv
open Go Go.RowKit Go.Proofs
open LvS1 (sortI nums numsM)
def Gath (w0 wr : World) (it m : Nat) (es : Array MapEntry) (clock : Nat) (g : MapEntry → List Int) (l0 : List Int) (v : Value) : Prop :=
 ∃ (seen : Array Nat) (l : List Int) (bb : Option Nat), wr.heap[it]? = some (.mapIter (some m) clock seen clock) ∧ IntsAt wr l v bb ∧ (∀ y ∈ l, Lk.inR .i64 y) ∧ (∀ k ∈ bb.toList, w0.heap.size ≤ k ∧ k ≠ it ∧ k < wr.heap.size) ∧
  Lk.Ext [] w0 wr ∧ it < wr.heap.size ∧ w0.heap.size ≤ it ∧ (l ++ ((leftOf es seen).toList.map g).flatten).Perm (l0 ++ (es.toList.map g).flatten)
theorem Gath.start {w0 wr : World} {m : Nat} {es : Array MapEntry} {clock : Nat} {g : MapEntry → List Int} {l0 : List Int} {v : Value} {bb : Option Nat} (hI : IntsAt wr l0 v bb) (hR : ∀ y ∈ l0, Lk.inR .i64 y) (hb : ∀ k ∈ bb.toList, w0.heap.size ≤ k ∧ k < wr.heap.size) (hE : Lk.Ext [] w0 wr) :
  Gath w0 (wr.alloc (.mapIter (some m) clock #[] clock)) wr.heap.size m es clock g l0 v :=
 ⟨#[], l0, bb, alloc_new _ _, hI.keep fun k hk => alloc_lt _ _ (hb k hk).2, hR, fun k hk => ⟨(hb k hk).1, by have := (hb k hk).2; omega, by rw [alloc_size]; have := (hb k hk).2; omega⟩, ext_alloc hE _, by rw [alloc_size]; omega, hE.size, by rw [left_none]⟩
theorem Gath.next {w0 wr : World} {it m : Nat} {es : Array MapEntry} {clock : Nat} {g : MapEntry → List Int} {l0 : List Int} {v : Value} (h : Gath w0 wr it m es clock g l0 v) (hm : w0.heap[m]? = some (.map es clock)) (hst : MapKept.Stamped es clock) :
  (∃ l bb, (∀ ty, (Instr.next (.pointer (some ⟨it, 0, none⟩)) false ty).run Tryz.prog wr = .ok (.tuple #[.bool false]) wr) ∧ IntsAt wr l v bb ∧ (∀ y ∈ l, Lk.inR .i64 y) ∧ (∀ k ∈ bb.toList, w0.heap.size ≤ k ∧ k < wr.heap.size) ∧ Lk.Ext [] w0 wr ∧ l.Perm (l0 ++ (es.toList.map g).flatten)) ∨
  ∃ (e : MapEntry) (w1 : World) (l : List Int) (bb : Option Nat) (seen : Array Nat), e ∈ es.toList ∧ (∀ ty, (Instr.next (.pointer (some ⟨it, 0, none⟩)) false ty).run Tryz.prog wr = .ok (.tuple #[.bool true, e.key, e.val]) w1) ∧
   (Instr.entry (.pointer (some ⟨it, 0, none⟩))).run Tryz.prog w1 = .ok (.tuple #[e.key, e.val]) w1 ∧ IntsAt w1 l v bb ∧ (∀ y ∈ l, Lk.inR .i64 y) ∧ (∀ k ∈ bb.toList, w0.heap.size ≤ k ∧ k ≠ it ∧ k < w1.heap.size) ∧ Lk.Ext [] w0 w1 ∧ it < w1.heap.size ∧ w0.heap.size ≤ it ∧
   (l ++ g e).length ≤ (l0 ++ (es.toList.map g).flatten).length ∧
   ∀ w2 v' bb', IntsAt w2 (l ++ g e) v' bb' → (∀ y ∈ g e, Lk.inR .i64 y) → (∀ k ∈ bb'.toList, w0.heap.size ≤ k ∧ k ≠ it ∧ k < w2.heap.size) → Lk.Ext [] w0 w2 → w1.heap.size ≤ w2.heap.size → w2.heap[it]? = w1.heap[it]? →
    Gath w0 w2 it m es clock g l0 v' ∧ (leftOf es (w2.iterSeen it)).size < (leftOf es (wr.iterSeen it)).size := by
 obtain ⟨seen, l, bb, h1, h2, h3, h4, h5, h6, h7, h8⟩ := h
 have hml : m < w0.heap.size := (Array.getElem?_eq_some_iff.1 hm).1
 have hmr : wr.heap[m]? = some (.map es clock) := (h5.block m hml (by simp)).trans hm
 have hiter : wr.iterSeen it = seen := by unfold World.iterSeen; rw [h1]
 rcases run_next_any (P := Tryz.prog) wr 0 it m clock clock seen es clock h1 hmr hst.1 (Nat.le_refl _) with ⟨h0, hrun⟩ | ⟨e, he, n, hrun⟩
 ·refine .inl ⟨l, bb, fun _ => hrun, h2, h3, fun k hk => ⟨(h4 k hk).1, (h4 k hk).2.2⟩, h5, ?_⟩
  have : (leftOf es seen).toList = [] := by rw [Array.eq_empty_of_size_eq_zero h0]
  rw [this] at h8
  simpa using h8
 ·obtain ⟨hem, _⟩ := mem_left he
  have hsz1 : (stepW wr it m clock (seen.push e.born) clock n).heap.size = wr.heap.size := stepW_size ..
  have hit1 : (stepW wr it m clock (seen.push e.born) clock n).heap[it]? = some (.mapIter (some m) clock (seen.push e.born) clock) := heap_set_same _ h6
  have hot1 : ∀ k, k ≠ it → (stepW wr it m clock (seen.push e.born) clock n).heap[k]? = wr.heap[k]? := fun k hk => heap_set_other _ hk
  have hm1 : (stepW wr it m clock (seen.push e.born) clock n).heap[m]? = some (.map es clock) := (hot1 m (by omega)).trans hmr
  have hen := run_entry_any (P := Tryz.prog) (stepW wr it m clock (seen.push e.born) clock n) it m clock seen es clock e hit1 hm1 hem hst.2.1
  have hE1 : Lk.Ext [] w0 (stepW wr it m clock (seen.push e.born) clock n) := by
   refine ext_tr h5 (cs := [it]) ⟨rfl, rfl, rfl, by rw [hsz1]; omega, fun k _ hk => hot1 k (fun e => hk (by simp [e]))⟩ fun k hk => .inr (by have := List.mem_singleton.1 hk; omega)
  have hp : (l ++ g e ++ ((leftOf es (seen.push e.born)).toList.map g).flatten).Perm (l0 ++ (es.toList.map g).flatten) := by
   rw [List.append_assoc]
   refine List.Perm.trans (List.Perm.append_left _ ?_) h8
   exact (((left_perm hst.2.1 he).map g).flatten).symm
  refine .inr ⟨e, stepW wr it m clock (seen.push e.born) clock n, l, bb, seen, hem, fun _ => hrun, hen, h2.keep fun k hk => hot1 k (h4 k hk).2.1, h3, fun k hk => by rw [hsz1]; exact h4 k hk, hE1, by rw [hsz1]; exact h6, h7, ?_, ?_⟩
  ·have := hp.length_eq
   rw [List.length_append] at this
   omega
  ·intro w2 v' bb' k1 k2 k3 k4 k5 k6
   have hit2 : w2.heap[it]? = some (.mapIter (some m) clock (seen.push e.born) clock) := k6.trans hit1
   refine ⟨⟨_, l ++ g e, bb', hit2, k1, fun y hy => ?_, k3, k4, by rw [hsz1] at k5; omega, h7, hp⟩, ?_⟩
   ·rcases List.mem_append.1 hy with hy | hy
    ·exact h3 y hy
    ·exact k2 y hy
   ·rw [hiter]
    have : w2.iterSeen it = seen.push e.born := by unfold World.iterSeen; rw [hit2]
    rw [this]
    exact left_shrinks es seen e he
end Lv
end
section
/-! A set of versions: the tables that are needed. -/
namespace Lv
open Go Go.RowKit Go.Proofs
open LvS1 (sortI nums numsM)
def keyG (g : Int → List Int) (e : MapEntry) : List Int := match e.key with
 | .int _ k => g k
 | _ => []
theorem keyG_all {w : World} {m : Nat} {es : Array MapEntry} {c : Nat} {kv : List (Int × Value)} (h : MapAt w m es c kv) (g : Int → List Int) : es.toList.map (keyG g) = kv.map fun p => g p.1 := by
 have h1 := h.ents
 have : ∀ (l : List MapEntry) (q : List (Int × Value)), l.map pairE = q.map pairV → l.map (keyG g) = q.map fun p => g p.1 := by
  intro l
  induction l with
  | nil => intro q hq; cases q with
   | nil => rfl
   | cons p q => cases hq
  | cons e l ih =>
   intro q hq
   cases q with
   | nil => cases hq
   | cons p q =>
    simp only [List.map_cons, List.cons.injEq] at hq ⊢
    refine ⟨?_, ih q hq.2⟩
    have hk : e.key = .int .i64 p.1 := congrArg Prod.fst hq.1
    unfold keyG
    rw [hk]
 exact this _ _ h1
theorem entry_of {w : World} {m : Nat} {es : Array MapEntry} {c : Nat} {kv : List (Int × Value)} (h : MapAt w m es c kv) {e : MapEntry} (he : e ∈ es.toList) : ∃ p ∈ kv, e.key = .int .i64 p.1 ∧ e.val = p.2 := by
 obtain ⟨i, hi⟩ := List.getElem?_of_mem he
 obtain ⟨p, hp, h1, h2⟩ := h.pos hi
 exact ⟨p, List.mem_of_getElem? hp, h1, h2⟩
theorem get_of_mem {α : Type} {l : List (Int × α)} (hu : l.Pairwise fun p q => p.1 ≠ q.1) {p : Int × α} (hp : p ∈ l) : get l p.1 = some p.2 := by
 induction l with
 | nil => cases hp
 | cons q l ih =>
  rw [List.pairwise_cons] at hu
  unfold get
  rw [List.find?_cons]
  rcases List.mem_cons.1 hp with rfl | hp
  ·simp
  ·have hne : (q.1 == p.1) = false := by simpa using hu.1 p hp
   rw [hne]
   exact ih hu.2 hp
theorem Gath.keys {w0 wr : World} {it m : Nat} {es : Array MapEntry} {clock : Nat} {kv : List (Int × Value)} {l0 : List Int} {v : Value} (h : Gath w0 wr it m es clock (keyG fun k => [k]) l0 v) (hM : MapAt w0 m es clock kv) (hR : ∀ p ∈ kv, Lk.inR .i64 p.1) (hb : (l0 ++ (es.toList.map (keyG fun k => [k])).flatten).length ≤ 1073741824) :
  (∃ l bb, (∀ ty, (Instr.next (.pointer (some ⟨it, 0, none⟩)) false ty).run Tryz.prog wr = .ok (.tuple #[.bool false]) wr) ∧ IntsAt wr l v bb ∧ (∀ y ∈ l, Lk.inR .i64 y) ∧ (∀ k ∈ bb.toList, w0.heap.size ≤ k ∧ k < wr.heap.size) ∧ Lk.Ext [] w0 wr ∧ l.Perm (l0 ++ (es.toList.map (keyG fun k => [k])).flatten)) ∨
  ∃ (k : Int) (val : Value) (w1 w2 : World) (v' : Value), (∀ ty, (Instr.next (.pointer (some ⟨it, 0, none⟩)) false ty).run Tryz.prog wr = .ok (.tuple #[.bool true, .int .i64 k, val]) w1) ∧
   (Instr.entry (.pointer (some ⟨it, 0, none⟩))).run Tryz.prog w1 = .ok (.tuple #[.int .i64 k, val]) w1 ∧
   (Builtin.append_ #[29, 29] 29 #[v, .slice (some ⟨w1.heap.size, 0, none⟩) 1 1]).run Tryz.prog (w1.alloc (.cells #[.int .i64 k] 3)) = .ok v' w2 ∧
   Gath w0 w2 it m es clock (keyG fun k => [k]) l0 v' ∧ (leftOf es (w2.iterSeen it)).size < (leftOf es (wr.iterSeen it)).size := by
 rcases h.next hM.cell hM.st with h | ⟨e, w1, l, bb, seen, he, hn, hen, hI, hRl, hbb, hE, hit, hit0, hlen, hcont⟩
 ·exact .inl h
 ·obtain ⟨p, hp, hk, _⟩ := entry_of hM he
  have hge : keyG (fun k => [k]) e = [p.1] := by unfold keyG; rw [hk]
  rw [hge] at hlen hcont
  rw [hk] at hn hen
  have hkr := hR p hp
  have hl : l.length + 1 ≤ 1073741824 := by simp at hlen hb ⊢; omega
  have hI1 : IntsAt (w1.alloc (.cells #[.int .i64 p.1] 3)) l v bb := hI.keep fun k hk => alloc_lt _ _ (hbb k hk).2.2
  have hsrc : Lk.Rd ax0 (fun _ => True) (w1.alloc (.cells #[.int .i64 p.1] 3)) (.l (.i .i64)) [p.1] [.slice (some ⟨w1.heap.size, 0, none⟩) 1 1] := by
   refine ⟨some ⟨w1.heap.size, 0, none⟩, 1, rfl, Nat.le_refl _, by simp [Lk.big], by simp, .inr ⟨w1.heap.size, 0, _, _, _, rfl, trivial, alloc_new w1 _, fun i z hz => ?_⟩⟩
   cases i with
   | zero =>
    obtain rfl : p.1 = z := by simpa using hz
    exact ⟨rfl, hkr⟩
   | succ i => simp at hz
  obtain ⟨w2, v', bb', hap, hI2, hx⟩ := append_ints ax0 hI1 hRl hsrc (by omega) (by simp) 29
  have hEa : Lk.Ext [] w0 (w1.alloc (.cells #[.int .i64 p.1] 3)) := ext_alloc hE _
  have hE2 : Lk.Ext [] w0 w2 := by
   rcases hx with ⟨_, hx⟩ | ⟨hx, _⟩
   ·exact ext_tr hEa hx fun k hk => .inr (hbb k hk).1
   ·exact ext_tr hEa hx (by simp)
  have hsz : w1.heap.size < w2.heap.size := by
   have : (w1.alloc (.cells #[.int .i64 p.1] 3)).heap.size ≤ w2.heap.size := by rcases hx with ⟨_, hx⟩ | ⟨hx, _⟩ <;> exact hx.size
   rw [alloc_size] at this
   omega
  have hiter : w2.heap[it]? = w1.heap[it]? := by
   rcases hx with ⟨_, hx⟩ | ⟨hx, _⟩
   ·exact (hx.block it (by rw [alloc_size]; omega) fun hk => (hbb it hk).2.1 rfl).trans (alloc_lt _ _ hit)
   ·exact (hx.block it (by rw [alloc_size]; omega) (by simp)).trans (alloc_lt _ _ hit)
  obtain ⟨g1, g2⟩ := hcont w2 v' bb' hI2 (fun y hy => by simp at hy; rw [hy]; exact hkr) (fun k hk => by
   rcases hx with ⟨rfl, _⟩ | ⟨_, n, rfl, n1, n2⟩
   ·have := hbb k hk; exact ⟨this.1, this.2.1, by omega⟩
   ·obtain rfl : k = n := by simpa using hk
    rw [alloc_size] at n1
    exact ⟨by omega, by omega, n2⟩) hE2 (by omega) hiter
  exact .inr ⟨p.1, e.val, w1, w2, v', hn, hen, hap, g1, g2⟩
end Lv
end
section
/-! A set of versions: the tables that are needed: over the versions. -/
namespace Lv
open Go Go.RowKit Go.Proofs
open LvS1 (sortI nums numsM)
theorem Gath.vers {w0 wr : World} {x : Lk.LiveS} {b m1 m2 it : Nat} {ds : List (Int × Ver)} {es : Array MapEntry} {clock : Nat} {l0 : List Int} {v : Value} (h : Gath w0 wr it m1 es clock (keyG fun k => numsM (levelsOf x k)) l0 v) (hA : LiveAt w0 x b m1 m2 ds)
  (hM : MapAt w0 m1 es clock (ds.map fun p => (p.1, heldV p.2))) (hN : ∀ p ∈ ds, smallN p.2.1.1 = true) (hb : (l0 ++ (es.toList.map (keyG fun k => numsM (levelsOf x k))).flatten).length ≤ 1073741824) :
  (∃ l bb, (∀ ty, (Instr.next (.pointer (some ⟨it, 0, none⟩)) false ty).run Tryz.prog wr = .ok (.tuple #[.bool false]) wr) ∧ IntsAt wr l v bb ∧ (∀ y ∈ l, Lk.inR .i64 y) ∧ (∀ k ∈ bb.toList, w0.heap.size ≤ k ∧ k < wr.heap.size) ∧ Lk.Ext [] w0 wr ∧ l.Perm (l0 ++ (es.toList.map (keyG fun k => numsM (levelsOf x k))).flatten)) ∨
  ∃ (key : Value) (a : Option Addr) (n c : Nat) (r : Int) (w1 : World), (∀ ty, (Instr.next (.pointer (some ⟨it, 0, none⟩)) false ty).run Tryz.prog wr = .ok (.tuple #[.bool true, key, .agg #[.slice a n c, .int .i64 r]]) w1) ∧
   (Instr.entry (.pointer (some ⟨it, 0, none⟩))).run Tryz.prog w1 = .ok (.tuple #[key, .agg #[.slice a n c, .int .i64 r]]) w1 ∧
   Calls Tryz.prog 23 #[.slice a n c] (w1.alloc (.cells #[.slice a n c, .int .i64 r] 68)) fun e w3 => ∃ v3, e = .returned v3 ∧ ∃ w4 v', (Builtin.append_ #[29, 29] 29 #[v, v3]).run Tryz.prog w3 = .ok v' w4 ∧
    Gath w0 w4 it m1 es clock (keyG fun k => numsM (levelsOf x k)) l0 v' ∧ (leftOf es (w4.iterSeen it)).size < (leftOf es (wr.iterSeen it)).size := by
 rcases h.next hM.cell hM.st with h | ⟨e, w1, l, bb, seen, he, hn, hen, hI, hRl, hbb, hE, hit, hit0, hlen, hcont⟩
 ·exact .inl h
 ·obtain ⟨p', hp', hk, hval⟩ := entry_of hM he
  obtain ⟨p, hp, rfl⟩ := List.mem_map.1 hp'
  have hk : e.key = .int .i64 p.1 := hk
  have hval : e.val = heldV p.2 := hval
  have hlv : levelsOf x p.1 = p.2.1.1 := by
   unfold levelsOf
   rw [hA.get_vs, get_of_mem hA.unlike hp]
   rfl
  have hge : keyG (fun k => numsM (levelsOf x k)) e = numsM p.2.1.1 := by unfold keyG; rw [hk]; show numsM (levelsOf x p.1) = _; rw [hlv]
  rw [hge] at hlen hcont
  have hr := hA.rows p hp
  obtain ⟨a, c, hsl, _⟩ := rd_levels hr
  have hval2 : e.val = .agg #[.slice a (List.length p.2.1.1) c, .int .i64 p.2.1.2] := by rw [hval]; unfold heldV; rw [hsl]
  rw [hval2] at hn hen
  rw [hsl] at hr
  have hbs : ∀ k ∈ p.2.2.2, k < w0.heap.size := fun k hk => hA.lt k (by simp [mem_vblks hp hk])
  have hsz0 := hE.size
  let W := w1.alloc (.cells #[.slice a (List.length p.2.1.1) c, .int .i64 p.2.1.2] 68)
  have hEW : Lk.Ext [] w0 W := ext_alloc hE _
  have hWs : W.heap.size = w1.heap.size + 1 := alloc_size _ _
  have hc := numbers_any (τ := ax0) W p.2.1.1 _ (Lk.Rd_keep ax0 (w' := W) (fun k hk => ⟨hk, hEW.block k (hbs k hk) (by simp)⟩) _ _ _ hr) (fun k hk => by have := hbs k hk; omega) (hN p hp)
  refine .inr ⟨e.key, a, _, c, _, w1, hn, hen, hc.mono ?_⟩
  rintro e3 w3 ⟨v3, rfl, sh, rfl, hold, hE3, hnd, hb3⟩
  have hrng := ints_rng (hold ax0 (fun _ => True) (fun _ => True))
  have hsrc : Lk.Rd ax0 (fun _ => True) w3 (.l (.i .i64)) (numsM p.2.1.1) [sh.hd] := Lk.row_rd rfl (by simp) (fun m' e => by cases e; rfl) (hold ax0 (fun _ => True) (fun _ => True))
  have hlen2 : l.length + (numsM p.2.1.1).length ≤ 1073741824 := by rw [List.length_append] at hlen; omega
  have hI3 : IntsAt w3 l v bb := hI.keep fun k hk => (hE3.block k (by rw [hWs]; have := (hbb k hk).2.2; omega) (by simp)).trans (alloc_lt _ _ (hbb k hk).2.2)
  obtain ⟨w4, v', bb', hap, hI4, hx⟩ := append_ints ax0 hI3 hRl hsrc (by omega) (by omega) 29
  have hE03 : Lk.Ext [] w0 w3 := ext_tr hEW hE3 (by simp)
  have hs3 := hE3.size
  have hE4 : Lk.Ext [] w0 w4 := by
   rcases hx with ⟨_, hx⟩ | ⟨hx, _⟩
   ·exact ext_tr hE03 hx fun k hk => .inr (hbb k hk).1
   ·exact ext_tr hE03 hx (by simp)
  have hs4 : w3.heap.size ≤ w4.heap.size := by rcases hx with ⟨_, hx⟩ | ⟨hx, _⟩ <;> exact hx.size
  have hiter3 : w3.heap[it]? = w1.heap[it]? := (hE3.block it (by rw [hWs]; omega) (by simp)).trans (alloc_lt _ _ hit)
  have hiter : w4.heap[it]? = w1.heap[it]? := by
   rcases hx with ⟨_, hx⟩ | ⟨hx, _⟩
   ·exact (hx.block it (by omega) fun hk => (hbb it hk).2.1 rfl).trans hiter3
   ·exact (hx.block it (by omega) (by simp)).trans hiter3
  obtain ⟨g1, g2⟩ := hcont w4 v' bb' hI4 hrng (fun k hk => by
   rcases hx with ⟨rfl, _⟩ | ⟨_, n, rfl, n1, n2⟩
   ·have := hbb k hk; exact ⟨this.1, this.2.1, by omega⟩
   ·obtain rfl : k = n := by simpa using hk
    exact ⟨by omega, by omega, n2⟩) hE4 (by omega) hiter
  exact ⟨_, rfl, w4, v', hap, g1, g2⟩
end Lv
end
section
/-! A set of versions: the tables that are needed: the walk. -/
namespace Lv
open Go Go.RowKit Go.Proofs
open LvS1 (sortI nums numsM)
def neededS (x : Lk.LiveS) : List Int := x.wr.map (·.1) ++ (x.vs.map fun p => numsM p.2.1).flatten
def tablesS (x : Lk.LiveS) : List Int := Lib.compact (sortI (neededS x))
theorem sortI_perm {l l' : List Int} (h : l.Perm l') : sortI l = sortI l' := by
 unfold sortI
 have tr : ∀ a b c : Int, decide (a ≤ b) = true → decide (b ≤ c) = true → decide (a ≤ c) = true := fun a b c h1 h2 => by
  have h1 := of_decide_eq_true h1
  have h2 := of_decide_eq_true h2
  exact decide_eq_true (by omega)
 have tot : ∀ a b : Int, (decide (a ≤ b) || decide (b ≤ a)) = true := fun a b => by
  rw [Bool.or_eq_true, decide_eq_true_eq, decide_eq_true_eq]; omega
 refine List.Perm.eq_of_pairwise (le := fun a b => decide (a ≤ b) = true) ?_ (List.pairwise_mergeSort tr tot l) (List.pairwise_mergeSort tr tot l') ((List.mergeSort_perm _ _).trans (h.trans (List.mergeSort_perm _ _).symm))
 intro a b _ _ h1 h2
 have h1 := of_decide_eq_true h1
 have h2 := of_decide_eq_true h2
 omega
theorem mem_compact {y : Int} {l : List Int} (h : y ∈ Lib.compact l) : y ∈ l := by
 unfold Lib.compact Lib.compactUpTo at h
 obtain ⟨i, hi, rfl⟩ := List.mem_map.1 h
 have hi := List.mem_range.1 (List.mem_filter.1 hi).1
 rw [getElem!_pos _ i (by simpa using hi)]
 simp
set_option maxHeartbeats 2000000 in
set_option maxRecDepth 100000 in
theorem tables_any (w : World) (x : Lk.LiveS) (b m1 m2 : Nat) (ds : List (Int × Ver)) (h : LiveAt w x b m1 m2 ds) (hN : ∀ p ∈ ds, smallN p.2.1.1 = true) (hb : (neededS x).length ≤ 1073741824) :
  Calls Tryz.prog 22 #[.pointer (some ⟨b, 0, none⟩)] w fun e w' => ∃ v', e = .returned v' ∧ NewRow w w' (.i .i64) .r (tablesS x) v' := by
 obtain ⟨es2, c2, hM2⟩ := h.wri
 obtain ⟨es1, c1, hM1⟩ := h.vers
 have e2 : (es2.toList.map (keyG fun k => [k])).flatten = x.wr.map (·.1) := by
  rw [keyG_all hM2, List.map_map]
  induction x.wr with
  | nil => rfl
  | cons p l ih => simp only [List.map_cons, List.flatten_cons, ih]; rfl
 have e1 : (es1.toList.map (keyG fun k => numsM (levelsOf x k))).flatten = (x.vs.map fun p => numsM p.2.1).flatten := by
  rw [keyG_all hM1, List.map_map, h.vs, List.map_map]
  congr 1
  refine List.map_congr_left fun p hp => ?_
  simp only [Function.comp]
  unfold levelsOf
  rw [h.get_vs, get_of_mem h.unlike hp]
  rfl
 have hb2 : (x.wr.map (·.1)).length ≤ 1073741824 := by unfold neededS at hb; rw [List.length_append] at hb; omega
 have hNone := none_any w x b m1 m2 ds h
 obtain ⟨h0, _, g2⟩ := h.cells
 have hr := run_range_map (P := Tryz.prog) w 70 _ _ m2 es2 c2 Tryz.underlying70 hM2.cell
 have hstart : Gath w (w.alloc (.mapIter (some m2) c2 #[] c2)) w.heap.size m2 es2 c2 (keyG fun k => [k]) [] (.slice none 0 0) := Gath.start (bb := none) ⟨rfl, rfl⟩ (by simp) (by simp) (ext_refl _ _)
 have hround := fun wr v (hg : Gath w wr w.heap.size m2 es2 c2 (keyG fun k => [k]) [] v) => hg.keys hM2 (fun p hp => by
  obtain ⟨q, hq, rfl⟩ := List.mem_map.1 hp
  exact (h.wrs q hq).1) (by rw [List.nil_append, e2]; exact hb2)
 go_enter Tryz.func22, Tryz.ntmps22
 go_wp2_with (go_at_call 49; refine hNone.mono ?_; rintro e w2 ⟨rfl, hw⟩; replace hw := hw.symm; subst hw)
 go_loopw [3] (fun v wr => Gath w wr w.heap.size m2 es2 c2 (keyG fun k => [k]) [] v) (fun _ wr => (leftOf es2 (wr.iterSeen w.heap.size)).size)
 case atStart => exact hstart
 case round =>
  rcases hround _ _ hrel with ⟨l, bb, hnx, hI, hRl, hbb, hE, hP⟩ | ⟨k, val, w1, w2, v', hnx, hen, hap, hL, hlt⟩
  ·clear hrel hround hr hstart h0 g2
   rw [List.nil_append, e2] at hP
   have hA := h.ext hE
   obtain ⟨h0, _, g2⟩ := hA.cells
   have hM1r : MapAt wr m1 es1 c1 (ds.map fun p => (p.1, heldV p.2)) := hM1.keep (hE.block m1 (h.lt m1 (by simp)) (by simp))
   have hr := run_range_map (P := Tryz.prog) wr 69 _ _ m1 es1 c1 Tryz.underlying69 hM1r.cell
   have hlen : (l ++ (es1.toList.map (keyG fun k => numsM (levelsOf x k))).flatten).length ≤ 1073741824 := by
    have := hP.length_eq
    unfold neededS at hb
    rw [e1]
    rw [List.length_append] at hb ⊢
    omega
   have hstart2 := Gath.start (m := m1) (es := es1) (clock := c1) (g := keyG fun k => numsM (levelsOf x k)) hI hRl hbb hE
   have hround2 := fun wr2 v (hg : Gath w wr2 wr.heap.size m1 es1 c1 (keyG fun k => numsM (levelsOf x k)) l v) => hg.vers h hM1 hN hlen
   clear hI hRl hbb hA hM1r hM1 hM2 hNone
   go_wp2
   go_loopw [3] (fun v wr2 => Gath w wr2 wr.heap.size m1 es1 c1 (keyG fun k => numsM (levelsOf x k)) l v) (fun _ wr2 => (leftOf es1 (wr2.iterSeen wr.heap.size)).size)
   case atStart => exact hstart2
   case round =>
    rcases hround2 _ _ hrel with ⟨l2, bb2, hnx2, hI2, hRl2, hbb2, hE2, hP2⟩ | ⟨key, a, n, c, r, w1, hnx2, hen2, hcall⟩
    ·clear hrel hround2 hr hstart2 h0 g2
     rw [e1] at hP2
     have hP3 : l2.Perm (neededS x) := hP2.trans (hP.append_right _)
     have hl2 : l2.length ≤ 1073741824 := by rw [hP3.length_eq]; exact hb
     have hS := sort_ints hI2 hl2
     have hT : tablesS x = Lib.compact (l2.mergeSort fun x y => decide (x ≤ y)) := by unfold tablesS; rw [← sortI_perm hP3]; rfl
     have hR4 : ∀ y ∈ Lib.compact (l2.mergeSort fun x y => decide (x ≤ y)), Lk.inR .i64 y := fun y hy => hRl2 y (List.mem_mergeSort.1 (mem_compact hy))
     have hC := fun w3 v3 (hI3 : IntsAt w3 (l2.mergeSort fun x y => decide (x ≤ y)) v3 bb2) => compact_ints hI3 (by rw [List.length_mergeSort]; exact hl2)
     clear hP3 hP2 hI2 hP h
     go_wp2_with (first | (go_at_call 51; refine hS.mono ?_; rintro e w3 ⟨rfl, hI3, hX3⟩) | (go_at_call 52; refine (hC _ _ hI3).mono ?_; rintro e w4 ⟨v4, rfl, hI4, hX4⟩))
     go_ret
     obtain ⟨sh, q1, q2, q3⟩ := hI4.hold (τ := ax0) (S := fun _ => True) (Sb := fun _ => True) hR4
     refine ⟨_, rfl, ?_⟩
     rw [hT]
     have hs3 := hX3.size
     have hs4 := hX4.size
     refine ⟨sh, q1, fun τ S Sb => row_any rfl rfl rfl q2, ext_tr (ext_tr hE2 hX3 fun k hk => .inr (hbb2 k hk).1) hX4 (fun k hk => .inr (hbb2 k hk).1), by rw [q3]; cases bb2 <;> simp, fun k hk => ?_⟩
     rw [q3] at hk
     have := hbb2 k hk
     omega
    ·clear hrel hround2 hr hstart2 hnx
     go_wp2_with (first | (go_at_call 23; refine hcall.mono ?_; rintro e w3 ⟨v3, rfl, w4, v', hap, hL, hlt⟩) | (at_builtin; refine wpList_append_run rfl _ _ _ _ rfl rfl rfl 29 rfl hap ?_))
     go_roundw
     case rel => exact hL
     case measure => exact hlt
  ·clear hrel hround hr hstart
   go_wp2_with (at_builtin; refine wpList_append_run rfl _ _ _ _ rfl rfl rfl 29 rfl hap ?_)
   go_roundw
   case rel => exact hL
   case measure => exact hlt
end Lv
end
section
/-! What L is told of a set's calls. -/
namespace Lv
open Go Go.RowKit Go.Proofs
theorem not_owned {d : Lk.DV} (h : Lk.isO d.m = false) (hq : ∀ x y, d.m ≠ .q x y) : d.bl = [] := by
 obtain ⟨t, m, x, sh⟩ := d
 cases m with
 | o m => cases h
 | q m n => exact absurd rfl (hq m n)
 | _ => cases t <;> rfl
variable {kw : Lk.KW}
theorem mut_ok {g : FuncId} {qs : List (Lk.Ty × Lk.Md)} (hq : ∀ p ∈ qs, p.2 = .r ∨ p.2 = .b) {F : Lk.Tup ((.a 1, .o .r) :: qs) → Option (Lk.Tup [(.i .i64, .r), (.a 1, .o .r)])}
  (Hn : ∀ y, F (none, y) = none)
  (H : ∀ (d : Lk.LiveS) (y : Lk.Tup qs) (res : Lk.Tup [(.i .i64, .r), (.a 1, .o .r)]), F (some d, y) = some res → ∃ (r : Int) (d' : Lk.LiveS), res = (r, some d', ()) ∧
   ∀ (w : World) (S : Nat → Prop) (ads : List Lk.DV) (b m1 m2 : Nat) (ds : List (Int × Ver)), LiveAt w d b m1 m2 ds → ads.map Lk.DV.av = Lk.avs qs y → (∀ a ∈ ads, a.hold ax S S w) → (∀ k, S k → k < w.heap.size ∧ k ∉ b :: m1 :: m2 :: vblks ds) →
    Lk.inR .i64 r ∧ Calls Tryz.prog g (.pointer (some ⟨b, 0, none⟩) :: ads.map (Lk.DV.val ax)).toArray w fun e w' => e = .returned (.int .i64 r) ∧ DidL w w' b m1 m2 ds d') :
  Lk.FnOk (τ := ax) (Kw := kw) Tryz.prog g ⟨(.a 1, .o .r) :: qs, [(.i .i64, .r), (.a 1, .o .r)], 1⟩ F := by
 intro x res hx w S Sb ads hK hs ha hargs
 obtain ⟨od, y⟩ := x
 cases od with
 | none => exact absurd hx (by rw [Hn y]; simp)
 | some d =>
  obtain ⟨sh, ads2, rfl, ha2⟩ := ads_cons (show ads.map Lk.DV.av = ⟨.a 1, .o .r, some d⟩ :: Lk.avs qs y from ha)
  have hm2 : ∀ a ∈ ads2, (a.m = .r ∨ a.m = .b) := by
   intro a haa
   have h1 : a.av ∈ Lk.avs qs y := by rw [← ha2]; exact List.mem_map.2 ⟨a, haa, rfl⟩
   have : ∀ (qs : List (Lk.Ty × Lk.Md)) (y : Lk.Tup qs) (u : Lk.AV), u ∈ Lk.avs qs y → ∃ p ∈ qs, u.m = p.2 := by
    intro qs
    induction qs with
    | nil => intro y u hu; cases hu
    | cons p qs ih =>
     intro y u hu
     rcases List.mem_cons.1 hu with rfl | hu
     ·exact ⟨p, by simp, rfl⟩
     ·obtain ⟨q, hq, e⟩ := ih _ _ hu
      exact ⟨q, by simp [hq], e⟩
   obtain ⟨p, hp, e⟩ := this qs y _ h1
   rcases hq p hp with h | h
   ·exact .inl (by rw [← h, ← e]; rfl)
   ·exact .inr (by rw [← h, ← e]; rfl)
  have hbl2 : ∀ a ∈ ads2, a.bl = [] := fun a haa => not_owned (by rcases hm2 a haa with h | h <;> rw [h] <;> rfl) (fun p q e => by rcases hm2 a haa with h | h <;> rw [h] at e <;> cases e)
  have hbls : Lk.blsOf (⟨.a 1, .o .r, some d, sh⟩ :: ads2) = sh.2 := by
   have : Lk.blsOf ads2 = [] := by
    unfold Lk.blsOf
    rw [List.flatten_eq_nil_iff]
    intro l hl
    obtain ⟨a, haa, rfl⟩ := List.mem_map.1 hl
    exact hbl2 a haa
   rw [Lk.blsOf_cons, this, List.append_nil]
   rfl
  have hown : ownS w d sh.1 sh.2 := hargs.hold _ (List.mem_cons_self ..)
  obtain ⟨b, m1, m2, ds, h2, h3, hD⟩ := hown
  have hown2 := hargs.own
  rw [hbls, h3] at hown2
  obtain ⟨r, d', rfl, hcall⟩ := H d y res hx
  have hh : ∀ a ∈ ads2, a.hold ax (fun b => S b ∨ Sb b) (fun b => S b ∨ Sb b) w := fun a haa => Lk.hold_keep ax (fun b hb => ⟨.inl hb, rfl⟩) (fun b hb => ⟨hb, rfl⟩) _ _ _ _ (fun _ _ => rfl) (hargs.hold a (List.mem_cons_of_mem _ haa))
  obtain ⟨hr, hcl⟩ := hcall w (fun b => S b ∨ Sb b) ads2 b m1 m2 ds hD ha2 hh (fun k hk => ⟨hs k hk, fun hm => (hown2 k hm).2 hk⟩)
  have hval : (List.map (Lk.DV.val ax) (⟨.a 1, .o .r, some d, sh⟩ :: ads2)).toArray = (.pointer (some ⟨b, 0, none⟩) :: ads2.map (Lk.DV.val ax)).toArray := by
   rw [← h2]; rfl
  rw [hval]
  refine hcl.mono ?_
  rintro e w' ⟨rfl, ds', hD', hE, hN⟩
  have hbs' : ∀ k ∈ b :: m1 :: m2 :: vblks ds', (k ∈ b :: m1 :: m2 :: vblks ds ∨ w.heap.size ≤ k) := by
   intro k hk
   simp only [List.mem_cons] at hk
   rcases hk with rfl | rfl | rfl | hk
   ·exact .inl (by simp)
   ·exact .inl (by simp)
   ·exact .inl (by simp)
   ·rcases hN k hk with h | h
    ·exact .inl (by simp [h])
    ·exact .inr h
  refine ⟨_, rfl, by rw [hbls, h3]; exact hE, ⟨[⟨.i .i64, .r, r, ()⟩, ⟨.a 1, .o .r, some d', (.pointer (some ⟨b, 0, none⟩), b :: m1 :: m2 :: vblks ds')⟩], S, rfl, fun _ h => h, fun _ h => .inl h, fun k hk => Nat.lt_of_lt_of_le (hs k (.inl hk)) hE.size, ?_, ?_, ?_, rfl, ?_⟩⟩
  ·intro a haa
   simp only [List.mem_cons, List.not_mem_nil, or_false] at haa
   rcases haa with rfl | rfl
   ·exact ⟨rfl, hr⟩
   ·exact ⟨b, m1, m2, ds', rfl, rfl, hD'⟩
  ·show (b :: m1 :: m2 :: vblks ds' ++ []).Nodup
   rw [List.append_nil]
   exact hD'.nodup
  ·intro k hk
   have hk : k ∈ b :: m1 :: m2 :: vblks ds' ++ [] := hk
   rw [List.append_nil] at hk
   refine ⟨?_, hD'.lt k hk, fun hS => ?_⟩
   ·rw [hbls, h3]; exact hbs' k hk
   ·rcases hbs' k hk with h | h
    ·exact (hown2 k h).2 (.inl hS)
    ·have := hs k (.inl hS); omega
  ·have : (ads2.filter fun d => Lk.isO d.m) = [] := List.filter_eq_nil_iff.2 fun a haa => by rcases hm2 a haa with h | h <;> rw [h] <;> simp [Lk.isO]
   show [Value.pointer (some ⟨b, 0, none⟩)] = List.map (Lk.DV.val ax) ((⟨.a 1, .o .r, some d, sh⟩ : Lk.DV) :: (ads2.filter fun d => Lk.isO d.m))
   rw [this, ← h2]
   rfl
end Lv
end
section
/-! A set's calls, as L has them: those that turn it. -/
namespace Lv
open Go Go.RowKit Go.Proofs
def in64 (n : Int) : Bool := decide (-9223372036854775808 ≤ n) && decide (n ≤ 9223372036854775807)
theorem in64_iff {n : Int} (h : in64 n = true) : -9223372036854775808 ≤ n ∧ n ≤ 9223372036854775807 := by
 unfold in64 at h
 rw [Bool.and_eq_true, decide_eq_true_eq, decide_eq_true_eq] at h
 exact h
def xInstall : Option Lk.LiveS → Levels → Option (Int × Option Lk.LiveS × Unit)
 | none, _ => none
 | some x, lv => bif validM lv then (bif smallL lv && !has x.vs (x.cur + 1) && in64 (x.cur + 1) then some ((installS x lv).cur, some (installS x lv), ()) else none) else some (0, some x, ())
def xHold : Option Lk.LiveS → Option (Int × Option Lk.LiveS × Unit)
 | none => none
 | some x => bif has x.vs x.cur && in64 (refsOf x x.cur + 1) then some ((turnS x x.cur 1).cur, some (turnS x x.cur 1), ()) else none
def xDrop : Option Lk.LiveS → Int → Option (Int × Option Lk.LiveS × Unit)
 | none, _ => none
 | some x, k => bif refsOf x k == 0 then some (180, some x, ()) else bif has x.vs k && in64 (refsOf x k + -1) then some (0, some (turnS x k (-1)), ()) else none
def xBegin : Option Lk.LiveS → Int → Option (Int × Option Lk.LiveS × Unit)
 | none, _ => none
 | some x, k => bif decide (k < 1) || decide (2147483647 < k) then some (2, some x, ()) else bif decide (0 < wrOf x k) then some (81, some x, ()) else some (0, some { x with wr := put x.wr k 1 }, ())
def xEnd : Option Lk.LiveS → Int → Option (Int × Option Lk.LiveS × Unit)
 | none, _ => none
 | some x, k => bif wrOf x k == 0 then some (51, some x, ()) else some (0, some { x with wr := del x.wr k }, ())
theorem did_same {w w' : World} {b m1 m2 : Nat} {ds : List (Int × Ver)} {x : Lk.LiveS} (h : LiveAt w x b m1 m2 ds) (hE : Lk.Ext [] w w') : DidL w w' b m1 m2 ds x := ⟨ds, h.ext hE, ext_more hE (by simp), fun q hq => .inl hq⟩
theorem tidy_cur (x : Lk.LiveS) (k : Int) : (tidyS x k).cur = x.cur := by
 unfold tidyS
 cases (!(k == x.cur) && refsOf x k == 0) <;> rfl
variable {kw : Lk.KW}
theorem ok_install : Lk.FnOk (τ := ax) (Kw := kw) Tryz.prog 33 ⟨[(.a 1, .o .r), (LvT, .b)], [(.i .i64, .r), (.a 1, .o .r)], 1⟩ (fun x => xInstall x.1 x.2.1) := by
 refine mut_ok (by simp) (fun _ => rfl) ?_
 rintro d ⟨lv, _⟩ res hF
 have hF : xInstall (some d) lv = some res := hF
 unfold xInstall at hF
 simp only at hF
 cases hv : validM lv with
 | false =>
  rw [hv, cond_false] at hF
  cases hF
  refine ⟨_, _, rfl, ?_⟩
  intro w S ads b m1 m2 ds hD ha hh hS
  obtain ⟨sh, ads', rfl, ha1⟩ := ads_cons ha
  obtain rfl := ads_nil ha1
  have hr : Lk.Rd ax S w LvT lv [sh.hd] := hh _ (List.mem_cons_self ..)
  refine ⟨inR_0, ?_⟩
  refine (install_not w d b m1 m2 ds hD lv sh.hd hr (fun k hk => (hS k hk).1) hv).mono ?_
  rintro e w' ⟨rfl, hE⟩
  exact ⟨rfl, did_same hD hE⟩
 | true =>
  rw [hv, cond_true] at hF
  cases hc : (smallL lv && !has d.vs (d.cur + 1) && in64 (d.cur + 1)) with
  | false => rw [hc] at hF; cases hF
  | true =>
   rw [hc, cond_true] at hF
   cases hF
   simp only [Bool.and_eq_true, Bool.not_eq_true'] at hc
   obtain ⟨h1, h2⟩ := in64_iff hc.2
   refine ⟨_, _, rfl, ?_⟩
   intro w S ads b m1 m2 ds hD ha hh hS
   obtain ⟨sh, ads', rfl, ha1⟩ := ads_cons ha
   obtain rfl := ads_nil ha1
   have hr : Lk.Rd ax S w LvT lv [sh.hd] := hh _ (List.mem_cons_self ..)
   exact ⟨by unfold installS; rw [tidy_cur]; exact ⟨h1, h2⟩, install_any w d b m1 m2 ds hD lv sh.hd hr hS hv hc.1.1 hc.1.2 h1 h2⟩
theorem ok_hold : Lk.FnOk (τ := ax) (Kw := kw) Tryz.prog 27 ⟨[(.a 1, .o .r)], [(.i .i64, .r), (.a 1, .o .r)], 1⟩ (fun x => xHold x.1) := by
 refine mut_ok (by simp) (fun _ => rfl) ?_
 rintro d ⟨⟩ res hF
 have hF : xHold (some d) = some res := hF
 unfold xHold at hF
 simp only at hF
 cases hc : (has d.vs d.cur && in64 (refsOf d d.cur + 1)) with
 | false => rw [hc] at hF; cases hF
 | true =>
  rw [hc, cond_true] at hF
  cases hF
  simp only [Bool.and_eq_true] at hc
  obtain ⟨h1, h2⟩ := in64_iff hc.2
  refine ⟨_, _, rfl, ?_⟩
  intro w S ads b m1 m2 ds hD ha hh hS
  obtain rfl := ads_nil ha
  exact ⟨by unfold turnS; rw [tidy_cur]; exact hD.cur, hold_any w d b m1 m2 ds hD hc.1 h1 h2⟩
theorem inR_small {n : Int} (h0 : 0 ≤ n) (h1 : n ≤ 1000) : Lk.inR .i64 n := ⟨by show -9223372036854775808 ≤ n; omega, by show n ≤ 9223372036854775807; omega⟩
theorem ok_drop : Lk.FnOk (τ := ax) (Kw := kw) Tryz.prog 18 ⟨[(.a 1, .o .r), (.i .i64, .r)], [(.i .i64, .r), (.a 1, .o .r)], 1⟩ (fun x => xDrop x.1 x.2.1) := by
 refine mut_ok (by simp) (fun _ => rfl) ?_
 rintro d ⟨k, _⟩ res hF
 have hF : xDrop (some d) k = some res := hF
 unfold xDrop at hF
 simp only at hF
 cases hr : (refsOf d k == 0) with
 | true =>
  rw [hr, cond_true] at hF
  cases hF
  refine ⟨_, _, rfl, ?_⟩
  intro w S ads b m1 m2 ds hD ha hh hS
  obtain ⟨sh, ads', rfl, ha1⟩ := ads_cons ha
  obtain rfl := ads_nil ha1
  refine ⟨inR_small (by omega) (by omega), ?_⟩
  refine (drop_none w d b m1 m2 ds hD k hr).mono ?_
  rintro e w' ⟨rfl, rfl⟩
  exact ⟨rfl, did_same hD (ext_refl _ _)⟩
 | false =>
  rw [hr, cond_false] at hF
  cases hc : (has d.vs k && in64 (refsOf d k + -1)) with
  | false => rw [hc] at hF; cases hF
  | true =>
   rw [hc, cond_true] at hF
   cases hF
   simp only [Bool.and_eq_true] at hc
   obtain ⟨h1, h2⟩ := in64_iff hc.2
   refine ⟨_, _, rfl, ?_⟩
   intro w S ads b m1 m2 ds hD ha hh hS
   obtain ⟨sh, ads', rfl, ha1⟩ := ads_cons ha
   obtain rfl := ads_nil ha1
   exact ⟨inR_0, drop_any w d b m1 m2 ds hD k hr hc.1 h1 h2⟩
theorem ok_begin : Lk.FnOk (τ := ax) (Kw := kw) Tryz.prog 38 ⟨[(.a 1, .o .r), (.i .i64, .r)], [(.i .i64, .r), (.a 1, .o .r)], 1⟩ (fun x => xBegin x.1 x.2.1) := by
 refine mut_ok (by simp) (fun _ => rfl) ?_
 rintro d ⟨k, _⟩ res hF
 have hF : xBegin (some d) k = some res := hF
 unfold xBegin at hF
 simp only at hF
 cases hr : (decide (k < 1) || decide (2147483647 < k)) with
 | true =>
  rw [hr, cond_true] at hF
  cases hF
  rw [Bool.or_eq_true, decide_eq_true_eq, decide_eq_true_eq] at hr
  refine ⟨_, _, rfl, ?_⟩
  intro w S ads b m1 m2 ds hD ha hh hS
  obtain ⟨sh, ads', rfl, ha1⟩ := ads_cons ha
  obtain rfl := ads_nil ha1
  refine ⟨inR_small (by omega) (by omega), ?_⟩
  refine (begin_arg w d b m1 m2 ds hD k hr).mono ?_
  rintro e w' ⟨rfl, rfl⟩
  exact ⟨rfl, did_same hD (ext_refl _ _)⟩
 | false =>
  rw [hr, cond_false] at hF
  rw [Bool.or_eq_false_iff, decide_eq_false_iff_not, decide_eq_false_iff_not] at hr
  cases hc : decide (0 < wrOf d k) with
  | true =>
   rw [hc, cond_true] at hF
   cases hF
   refine ⟨_, _, rfl, ?_⟩
   intro w S ads b m1 m2 ds hD ha hh hS
   obtain ⟨sh, ads', rfl, ha1⟩ := ads_cons ha
   obtain rfl := ads_nil ha1
   refine ⟨inR_small (by omega) (by omega), ?_⟩
   refine (begin_there w d b m1 m2 ds hD k hr.1 hr.2 (of_decide_eq_true hc)).mono ?_
   rintro e w' ⟨rfl, rfl⟩
   exact ⟨rfl, did_same hD (ext_refl _ _)⟩
  | false =>
   rw [hc, cond_false] at hF
   cases hF
   refine ⟨_, _, rfl, ?_⟩
   intro w S ads b m1 m2 ds hD ha hh hS
   obtain ⟨sh, ads', rfl, ha1⟩ := ads_cons ha
   obtain rfl := ads_nil ha1
   exact ⟨inR_0, begin_any w d b m1 m2 ds hD k hr.1 hr.2 (of_decide_eq_false hc)⟩
theorem ok_end : Lk.FnOk (τ := ax) (Kw := kw) Tryz.prog 19 ⟨[(.a 1, .o .r), (.i .i64, .r)], [(.i .i64, .r), (.a 1, .o .r)], 1⟩ (fun x => xEnd x.1 x.2.1) := by
 refine mut_ok (by simp) (fun _ => rfl) ?_
 rintro d ⟨k, _⟩ res hF
 have hF : xEnd (some d) k = some res := hF
 unfold xEnd at hF
 simp only at hF
 cases hr : (wrOf d k == 0) with
 | true =>
  rw [hr, cond_true] at hF
  cases hF
  refine ⟨_, _, rfl, ?_⟩
  intro w S ads b m1 m2 ds hD ha hh hS
  obtain ⟨sh, ads', rfl, ha1⟩ := ads_cons ha
  obtain rfl := ads_nil ha1
  refine ⟨inR_small (by omega) (by omega), ?_⟩
  refine (end_none w d b m1 m2 ds hD k hr).mono ?_
  rintro e w' ⟨rfl, rfl⟩
  exact ⟨rfl, did_same hD (ext_refl _ _)⟩
 | false =>
  rw [hr, cond_false] at hF
  cases hF
  refine ⟨_, _, rfl, ?_⟩
  intro w S ads b m1 m2 ds hD ha hh hS
  obtain ⟨sh, ads', rfl, ha1⟩ := ads_cons ha
  obtain rfl := ads_nil ha1
  exact ⟨inR_0, end_any w d b m1 m2 ds hD k hr⟩
end Lv
end
section
/-! A set's calls, as L has them: those that read; a new one. -/
namespace Lv
open Go Go.RowKit Go.Proofs
def xNew (lv : Levels) : Option (Option Lk.LiveS × Unit) := bif validM lv then (bif smallL lv then some (some ⟨[(1, (lv, 0))], 1, []⟩, ()) else none) else some (none, ())
def xCurrent : Option Lk.LiveS → Option (Int × Levels × Unit)
 | none => none
 | some x => bif smallL (levelsOf x x.cur) then some (x.cur, levelsOf x x.cur, ()) else none
def xLevels : Option Lk.LiveS → Int → Option (Levels × Int × Unit)
 | none, _ => none
 | some x, k => bif has x.vs k then (bif smallL (levelsOf x k) then some (levelsOf x k, 0, ()) else none) else some ([], 180, ())
def xRefs : Option Lk.LiveS → Int → Option (Int × Unit)
 | none, _ => none
 | some x, k => some (refsOf x k, ())
def xLen : Option Lk.LiveS → Option (Int × Unit)
 | none => none
 | some x => bif Nat.ble x.vs.length 1073741824 then some ((x.vs.length : Int), ()) else none
def xTables : Option Lk.LiveS → Option (List Int × Unit)
 | none => none
 | some x => bif x.vs.all (fun p => smallN p.2.1) && Nat.ble (neededS x).length 1073741824 then some (tablesS x, ()) else none
def xNone : Option Lk.LiveS → Option (Bool × Unit)
 | none => none
 | some _ => some (false, ())
variable {kw : Lk.KW}
theorem read_ok {g : FuncId} {qs rs : List (Lk.Ty × Lk.Md)} {nr : Nat} (hq : ∀ p ∈ qs, p.2 = .r) {F : Lk.Tup ((.a 1, .b) :: qs) → Option (Lk.Tup rs)} (Hn : ∀ y, F (none, y) = none)
  (H : ∀ (d : Lk.LiveS) (y : Lk.Tup qs) (res : Lk.Tup rs), F (some d, y) = some res → ∀ (w : World) (S Sb : Nat → Prop) (ads : List Lk.DV) (b m1 m2 : Nat) (ds : List (Int × Ver)), LiveAt w d b m1 m2 ds → ads.map Lk.DV.av = Lk.avs qs y → (∀ k, S k ∨ Sb k → k < w.heap.size) →
    Calls Tryz.prog g (.pointer (some ⟨b, 0, none⟩) :: ads.map (Lk.DV.val ax)).toArray w fun e w' => ∃ v, e = .returned v ∧ Lk.Ext [] w w' ∧ Lk.ResAre (τ := ax) w w' S [] (Lk.avs rs res) nr [] v) :
  Lk.FnOk (τ := ax) (Kw := kw) Tryz.prog g ⟨(.a 1, .b) :: qs, rs, nr⟩ F := by
 intro x res hx w S Sb ads hK hs ha hargs
 obtain ⟨od, y⟩ := x
 cases od with
 | none => exact absurd hx (by rw [Hn y]; simp)
 | some d =>
  obtain ⟨sh, ads2, rfl, ha2⟩ := ads_cons (show ads.map Lk.DV.av = ⟨.a 1, .b, some d⟩ :: Lk.avs qs y from ha)
  have hm2 : ∀ a ∈ ads2, a.m = .r := by
   intro a haa
   have h1 : a.av ∈ Lk.avs qs y := by rw [← ha2]; exact List.mem_map.2 ⟨a, haa, rfl⟩
   have : ∀ (qs : List (Lk.Ty × Lk.Md)) (y : Lk.Tup qs) (u : Lk.AV), u ∈ Lk.avs qs y → ∃ p ∈ qs, u.m = p.2 := by
    intro qs
    induction qs with
    | nil => intro y u hu; cases hu
    | cons p qs ih =>
     intro y u hu
     rcases List.mem_cons.1 hu with rfl | hu
     ·exact ⟨p, by simp, rfl⟩
     ·obtain ⟨q, hq, e⟩ := ih _ _ hu
      exact ⟨q, by simp [hq], e⟩
   obtain ⟨p, hp, e⟩ := this qs y _ h1
   rw [← hq p hp, ← e]; rfl
  have hbl2 : ∀ a ∈ ads2, a.bl = [] := fun a haa => not_owned (by rw [hm2 a haa]; rfl) (fun p q e => by rw [hm2 a haa] at e; cases e)
  have hbls : Lk.blsOf (⟨.a 1, .b, some d, sh⟩ :: ads2) = [] := by
   have : Lk.blsOf ads2 = [] := by
    unfold Lk.blsOf
    rw [List.flatten_eq_nil_iff]
    intro l hl
    obtain ⟨a, haa, rfl⟩ := List.mem_map.1 hl
    exact hbl2 a haa
   rw [Lk.blsOf_cons, this, List.append_nil]
   rfl
  have hfil : ((⟨.a 1, .b, some d, sh⟩ :: ads2).filter fun d => Lk.isO d.m) = [] := List.filter_eq_nil_iff.2 fun a haa => by
   rcases List.mem_cons.1 haa with rfl | haa
   ·simp [Lk.isO]
   ·rw [hm2 a haa]; simp [Lk.isO]
  obtain ⟨v0, bs, e0, _, b, m1, m2, ds, rfl, _, hD⟩ : ∃ v0 bs, [sh.1] = [v0] ∧ (∀ k ∈ bs, S k ∨ Sb k) ∧ ownS w d v0 bs := hargs.hold _ (List.mem_cons_self ..)
  have e0 : sh.1 = .pointer (some ⟨b, 0, none⟩) := by simpa using e0
  have hval : (List.map (Lk.DV.val ax) (⟨.a 1, .b, some d, sh⟩ :: ads2)).toArray = (.pointer (some ⟨b, 0, none⟩) :: ads2.map (Lk.DV.val ax)).toArray := by
   rw [← e0]; rfl
  rw [hval]
  refine (H d y res hx w S Sb ads2 b m1 m2 ds hD ha2 hs).mono ?_
  rintro e w' ⟨v, rfl, hE, hR⟩
  refine ⟨v, rfl, by rw [hbls]; exact hE, ?_⟩
  rw [hbls]
  obtain ⟨rds, S', q1, q2, q3, q4, q5, q6, q7, q8, q9⟩ := hR.ex
  exact ⟨⟨rds, S', q1, q2, q3, q4, q5, q6, q7, q8, by rw [hfil]; exact q9⟩⟩
theorem res_int {w w' : World} {S Sb : Nat → Prop} {n : Int} (hS : ∀ b, S b ∨ Sb b → b < w.heap.size) (hsz : w.heap.size ≤ w'.heap.size) (hn : Lk.inR .i64 n) : Lk.ResAre (τ := ax) w w' S [] [⟨.i .i64, .r, n⟩] 1 [] (.int .i64 n) :=
 ⟨⟨[⟨.i .i64, .r, n, ()⟩], S, rfl, fun _ h => h, fun _ h => .inl h, fun b hb => Nat.lt_of_lt_of_le (hS b (.inl hb)) hsz, by
  intro d hd
  obtain rfl := List.mem_singleton.1 hd
  exact ⟨rfl, hn⟩, by simp [Lk.blsOf, Lk.DV.bl, Lk.bl], by simp [Lk.blsOf, Lk.DV.bl, Lk.bl], rfl, rfl⟩⟩
theorem ok_refs : Lk.FnOk (τ := ax) (Kw := kw) Tryz.prog 17 ⟨[(.a 1, .b), (.i .i64, .r)], [(.i .i64, .r)], 1⟩ (fun x => xRefs x.1 x.2.1) := by
 refine read_ok (by simp) (fun _ => rfl) ?_
 rintro d ⟨k, _⟩ res hF w S Sb ads b m1 m2 ds hD ha hs
 cases (show some (refsOf d k, ()) = some res from hF)
 obtain ⟨sh, ads', rfl, ha1⟩ := ads_cons ha
 obtain rfl := ads_nil ha1
 refine (refs_any w d b m1 m2 ds hD k).mono ?_
 rintro e w' ⟨rfl, rfl⟩
 obtain ⟨_, _, _, _, _, hr, _⟩ := hD.look k
 exact ⟨_, rfl, ext_refl _ _, res_int hs (Nat.le_refl _) hr⟩
theorem ok_len : Lk.FnOk (τ := ax) (Kw := kw) Tryz.prog 20 ⟨[(.a 1, .b)], [(.i .i64, .r)], 1⟩ (fun x => xLen x.1) := by
 refine read_ok (by simp) (fun _ => rfl) ?_
 rintro d ⟨⟩ res hF w S Sb ads b m1 m2 ds hD ha hs
 have hF : (bif Nat.ble d.vs.length 1073741824 then some ((d.vs.length : Int), ()) else none) = some res := hF
 cases hb : Nat.ble d.vs.length 1073741824 with
 | false => rw [hb] at hF; cases hF
 | true =>
  rw [hb, cond_true] at hF
  cases hF
  rw [Nat.ble_eq] at hb
  obtain rfl := ads_nil ha
  refine (len_any w d b m1 m2 ds hD).mono ?_
  rintro e w' ⟨rfl, rfl⟩
  exact ⟨_, rfl, ext_refl _ _, res_int hs (Nat.le_refl _) ⟨by show -9223372036854775808 ≤ (d.vs.length : Int); omega, by show (d.vs.length : Int) ≤ 9223372036854775807; omega⟩⟩
theorem ok_none : Lk.FnOk (τ := ax) (Kw := kw) Tryz.prog 49 ⟨[(.a 1, .b)], [(.b, .r)], 1⟩ (fun x => xNone x.1) := by
 refine read_ok (by simp) (fun _ => rfl) ?_
 rintro d ⟨⟩ res hF w S Sb ads b m1 m2 ds hD ha hs
 cases (show some (false, ()) = some res from hF)
 obtain rfl := ads_nil ha
 refine (none_any w d b m1 m2 ds hD).mono ?_
 rintro e w' ⟨rfl, rfl⟩
 exact ⟨_, rfl, ext_refl _ _, res_bool hs (Nat.le_refl _) rfl⟩
theorem ok_tables : Lk.FnOk (τ := ax) (Kw := kw) Tryz.prog 22 ⟨[(.a 1, .b)], [(.l (.i .i64), .o .r)], 1⟩ (fun x => xTables x.1) := by
 refine read_ok (by simp) (fun _ => rfl) ?_
 rintro d ⟨⟩ res hF w S Sb ads b m1 m2 ds hD ha hs
 have hF : (bif d.vs.all (fun p => smallN p.2.1) && Nat.ble (neededS d).length 1073741824 then some (tablesS d, ()) else none) = some res := hF
 cases hb : (d.vs.all (fun p => smallN p.2.1) && Nat.ble (neededS d).length 1073741824) with
 | false => rw [hb] at hF; cases hF
 | true =>
  rw [hb, cond_true] at hF
  cases hF
  rw [Bool.and_eq_true, Nat.ble_eq, List.all_eq_true] at hb
  obtain rfl := ads_nil ha
  refine (tables_any w d b m1 m2 ds hD (fun p hp => hb.1 (p.1, p.2.1) (by rw [hD.vs]; exact List.mem_map.2 ⟨p, hp, rfl⟩)) hb.2).mono ?_
  rintro e w' ⟨v', rfl, hN⟩
  have hE : Lk.Ext [] w w' := by obtain ⟨_, _, _, hE, _⟩ := hN; exact hE
  exact ⟨v', rfl, hE, res_new hN hs rfl⟩
end Lv
end
section
/-! A set's calls, as L has them: copies handed out; a new set. -/
namespace Lv
open Go Go.RowKit Go.Proofs
variable {kw : Lk.KW}
theorem blsOf_int_row {n : Int} {t : Lk.Ty} {m : Lk.Md} {x : List (Lk.E t)} {sh : Lk.LS (Lk.Sh t)} : Lk.blsOf [(⟨.i .i64, .r, n, ()⟩ : Lk.DV), ⟨.l t, .o m, x, sh⟩] = Lk.bl (.l t) (.o m) x sh := by
 rw [Lk.blsOf_cons, Lk.blsOf_cons]
 exact (List.nil_append _).trans (List.append_nil _)
theorem blsOf_row_int {n : Int} {t : Lk.Ty} {m : Lk.Md} {x : List (Lk.E t)} {sh : Lk.LS (Lk.Sh t)} : Lk.blsOf [(⟨.l t, .o m, x, sh⟩ : Lk.DV), ⟨.i .i64, .r, n, ()⟩] = Lk.bl (.l t) (.o m) x sh := by
 rw [Lk.blsOf_cons, Lk.blsOf_cons]
 exact List.append_nil _
theorem res_int_row {w w' : World} {S Sb : Nat → Prop} {t : Lk.Ty} {m : Lk.Md} {x : List (Lk.E t)} {v : Value} {n : Int} (h : NewRow w w' t m x v) (hS : ∀ b, S b ∨ Sb b → b < w.heap.size) (hn : Lk.inR .i64 n) :
  Lk.ResAre (τ := ax) w w' S [] [⟨.i .i64, .r, n⟩, ⟨.l t, .o m, x⟩] 2 [] (.tuple #[.int .i64 n, v]) := by
 obtain ⟨sh, rfl, h1, h2, h3, h4⟩ := h
 refine ⟨⟨[⟨.i .i64, .r, n, ()⟩, ⟨.l t, .o m, x, sh⟩], S, rfl, fun _ h => h, fun _ h => .inl h, fun b hb => Nat.lt_of_lt_of_le (hS b (.inl hb)) h2.size, ?_, by rw [blsOf_int_row]; exact h3, ?_, rfl, rfl⟩⟩
 ·intro d hd
  simp only [List.mem_cons, List.not_mem_nil, or_false] at hd
  rcases hd with rfl | rfl
  ·exact ⟨rfl, hn⟩
  ·exact h1 ax S S
 ·intro b hb
  rw [blsOf_int_row] at hb
  have := h4 b hb
  exact ⟨.inr this.1, this.2, fun h => by have := hS b (.inl h); omega⟩
theorem res_row_int {w w' : World} {S Sb : Nat → Prop} {t : Lk.Ty} {m : Lk.Md} {x : List (Lk.E t)} {v : Value} {n : Int} (h : NewRow w w' t m x v) (hS : ∀ b, S b ∨ Sb b → b < w.heap.size) (hn : Lk.inR .i64 n) :
  Lk.ResAre (τ := ax) w w' S [] [⟨.l t, .o m, x⟩, ⟨.i .i64, .r, n⟩] 2 [] (.tuple #[v, .int .i64 n]) := by
 obtain ⟨sh, rfl, h1, h2, h3, h4⟩ := h
 refine ⟨⟨[⟨.l t, .o m, x, sh⟩, ⟨.i .i64, .r, n, ()⟩], S, rfl, fun _ h => h, fun _ h => .inl h, fun b hb => Nat.lt_of_lt_of_le (hS b (.inl hb)) h2.size, ?_, by rw [blsOf_row_int]; exact h3, ?_, rfl, rfl⟩⟩
 ·intro d hd
  simp only [List.mem_cons, List.not_mem_nil, or_false] at hd
  rcases hd with rfl | rfl
  ·exact h1 ax S S
  ·exact ⟨rfl, hn⟩
 ·intro b hb
  rw [blsOf_row_int] at hb
  have := h4 b hb
  exact ⟨.inr this.1, this.2, fun h => by have := hS b (.inl h); omega⟩
theorem NewRow.ext {w w' : World} {t : Lk.Ty} {m : Lk.Md} {x : List (Lk.E t)} {v : Value} (h : NewRow w w' t m x v) : Lk.Ext [] w w' := by
 obtain ⟨_, _, _, hE, _⟩ := h; exact hE
theorem ok_current : Lk.FnOk (τ := ax) (Kw := kw) Tryz.prog 16 ⟨[(.a 1, .b)], [(.i .i64, .r), (LvT, .o (.o FQ))], 2⟩ (fun x => xCurrent x.1) := by
 refine read_ok (by simp) (fun _ => rfl) ?_
 rintro d ⟨⟩ res hF w S Sb ads b m1 m2 ds hD ha hs
 have hF : (bif smallL (levelsOf d d.cur) then some (d.cur, levelsOf d d.cur, ()) else none) = some res := hF
 cases hb : smallL (levelsOf d d.cur) with
 | false => rw [hb] at hF; cases hF
 | true =>
  rw [hb, cond_true] at hF
  cases hF
  obtain rfl := ads_nil ha
  refine (current_any w d b m1 m2 ds hD hb).mono ?_
  rintro e w' ⟨v', rfl, hN⟩
  exact ⟨_, rfl, hN.ext, res_int_row hN hs hD.cur⟩
theorem ok_levels : Lk.FnOk (τ := ax) (Kw := kw) Tryz.prog 29 ⟨[(.a 1, .b), (.i .i64, .r)], [(LvT, .o (.o FQ)), (.i .i64, .r)], 2⟩ (fun x => xLevels x.1 x.2.1) := by
 refine read_ok (by simp) (fun _ => rfl) ?_
 rintro d ⟨k, _⟩ res hF w S Sb ads b m1 m2 ds hD ha hs
 have hF : (bif has d.vs k then (bif smallL (levelsOf d k) then some (levelsOf d k, 0, ()) else none) else some ([], 180, ())) = some res := hF
 obtain ⟨sh, ads', rfl, ha1⟩ := ads_cons ha
 obtain rfl := ads_nil ha1
 cases hk : has d.vs k with
 | false =>
  rw [hk, cond_false] at hF
  cases hF
  refine (levels_not w d b m1 m2 ds hD k hk).mono ?_
  rintro e w' ⟨v', rfl, hN⟩
  exact ⟨_, rfl, hN.ext, res_row_int hN hs (inR_small (n := 180) (by omega) (by omega))⟩
 | true =>
  rw [hk, cond_true] at hF
  cases hb : smallL (levelsOf d k) with
  | false => rw [hb] at hF; cases hF
  | true =>
   rw [hb, cond_true] at hF
   cases hF
   refine (levels_there w d b m1 m2 ds hD k hk hb).mono ?_
   rintro e w' ⟨v', rfl, hN⟩
   exact ⟨_, rfl, hN.ext, res_row_int hN hs inR_0⟩
theorem ok_new : Lk.FnOk (τ := ax) (Kw := kw) Tryz.prog 7 ⟨[(LvT, .b)], [(.a 1, .o .r)], 1⟩ (fun x => xNew x.1) := by
 rintro ⟨lv, _⟩ res hx w S Sb ads hK hs ha hargs
 obtain ⟨sh, ads', rfl, ha1⟩ := ads_cons ha
 obtain rfl := ads_nil ha1
 have hh : Lk.Rd ax (fun b => S b ∨ Sb b) w LvT lv [sh.hd] := hargs.hold _ (List.mem_cons_self ..)
 have hx : (bif validM lv then (bif smallL lv then some ((some (⟨[(1, (lv, 0))], 1, []⟩ : Lk.LiveS) : Option Lk.LiveS), ()) else none) else some (none, ())) = some res := hx
 refine (show Calls Tryz.prog 7 #[sh.hd] w _ from ?_)
 have hB : Lk.blsOf [(⟨LvT, .b, lv, sh⟩ : Lk.DV)] = [] := rfl
 rw [hB]
 cases hv : validM lv with
 | false =>
  rw [hv, cond_false] at hx
  cases hx
  refine (new_not w lv sh.hd hh hs hv).mono ?_
  rintro e w' ⟨rfl, hE⟩
  refine ⟨_, rfl, hE, ⟨⟨[⟨.a 1, .o .r, none, (.pointer none, [])⟩], S, rfl, fun _ h => h, fun _ h => .inl h, fun b hb => Nat.lt_of_lt_of_le (hs b (.inl hb)) hE.size, ?_, by simp [Lk.blsOf, Lk.DV.bl, Lk.bl], by simp [Lk.blsOf, Lk.DV.bl, Lk.bl], rfl, rfl⟩⟩⟩
  intro d hd
  obtain rfl := List.mem_singleton.1 hd
  exact ⟨rfl, rfl⟩
 | true =>
  rw [hv, cond_true] at hx
  cases hb : smallL lv with
  | false => rw [hb] at hx; cases hx
  | true =>
   rw [hb, cond_true] at hx
   cases hx
   refine (new_any w lv sh.hd hh hs hv hb).mono ?_
   rintro e w' ⟨b, m1, m2, ds, rfl, hD, hE, hq⟩
   have hbl : Lk.blsOf [(⟨.a 1, .o .r, some ⟨[(1, (lv, 0))], 1, []⟩, (.pointer (some ⟨b, 0, none⟩), b :: m1 :: m2 :: vblks ds)⟩ : Lk.DV)] = b :: m1 :: m2 :: vblks ds := by
    rw [Lk.blsOf_cons]
    exact List.append_nil _
   refine ⟨_, rfl, hE, ⟨⟨[⟨.a 1, .o .r, some ⟨[(1, (lv, 0))], 1, []⟩, (.pointer (some ⟨b, 0, none⟩), b :: m1 :: m2 :: vblks ds)⟩], S, rfl, fun _ h => h, fun _ h => .inl h, fun b hb => Nat.lt_of_lt_of_le (hs b (.inl hb)) hE.size, ?_, by rw [hbl]; exact hD.nodup, ?_, rfl, rfl⟩⟩⟩
   ·intro d hd
    obtain rfl := List.mem_singleton.1 hd
    exact ⟨b, m1, m2, ds, rfl, rfl, hD⟩
   ·intro k hk
    rw [hbl] at hk
    have h1 := hq k hk
    exact ⟨.inr h1, hD.lt k hk, fun h => by have := hs k (.inl h); omega⟩
end Lv
end
section
/-! What the functions told from without say: plain. -/
namespace NqG
open Go Lk
def hx (n : Nat) : UInt8 := UInt8.ofNat (bif Nat.blt n 10 then 48 + n else 87 + n)
def esc (a : UInt8) : List UInt8 := [92, 120, hx (a.toNat / 16), hx (a.toNat % 16)]
def escs (b : List UInt8) : List UInt8 := (b.map esc).flatten
def self (r : Nat) : Bool := (Nat.blt 32 r && Nat.blt r 127 && !(r == 34) && !(r == 92)) || Nat.blt 160 r
def rn (b : List UInt8) (i : Nat) : Nat := (Utf8.decode ⟨b.toArray⟩ i).1
def wri (b : List UInt8) (i : Nat) : List UInt8 :=
 bif rn b i == 65533 && sz b i == 1 then esc (b.getD i 0) else
 bif rn b i == 10 then [92, 110] else bif rn b i == 9 then [92, 116] else bif rn b i == 32 then [92, 115] else bif rn b i == 34 then [92, 34] else bif rn b i == 92 then [92, 92] else
 bif self (rn b i) then ext b (i : Int) ((i + sz b i : Nat) : Int) else escs (ext b (i : Int) ((i + sz b i : Nat) : Int))
end NqG
end
section
namespace NqG
open Go
noncomputable def atoi (l : List UInt8) : Int × Bool := match Lib.atoiAll l with | .ok v => (v, false) | Lib.NumEnd.syntax => (0, true) | .range => (Lib.atoiSat l, true)
end NqG
end
section
namespace LvG
open Go Lk
noncomputable def tys : BT (Ty × Md) := (.node (.node (.node (.node (.node (.node (.node .leaf 1 (.z .fn, .r) .leaf) 2 (.i .i64, .r) (.node .leaf 3 (.i .i64, .r) .leaf)) 4 (.b, .r) (.node (.node .leaf 5 (.by, .r) .leaf) 6 (.by, .r) (.node .leaf 7 (.c (.i .i64) (.c (.i .i64) (.c (.b) (.c (.by) (.u)))), (.q .r (.q .r (.q .r (.q .r .r))))) .leaf))) 8 (.c (.i .i64) (.c (.i .i64) (.c (.b) (.c (.by) (.u)))), (.q .r (.q .r (.q .r (.q .r .r))))) (.node (.node (.node .leaf 9 (.s, .r) .leaf) 10 (.s, .r) (.node .leaf 11 (.s, .r) .leaf)) 12 (.i .u64, .r) (.node (.node .leaf 13 (.c (.s) (.c (.i .u64) (.u)), (.q .r (.q .r .r))) .leaf) 14 (.c (.s) (.c (.i .u64) (.u)), (.q .r (.q .r .r))) (.node .leaf 15 (.p (.c (.p (.c (.i .u64) (.c (.i .u64) (.c (.i .u32) (.c (.by) (.c (.by) (.c (.by) (.c (.by) (.c (.z .fn) (.c (.p (.by)) (.c (.i .i32) (.c (.i .i32) (.u))))))))))))) (.c (.p (.c (.i .u64) (.c (.i .u64) (.c (.i .u32) (.c (.by) (.c (.by) (.c (.by) (.c (.by) (.c (.z .fn) (.c (.p (.by)) (.c (.i .i32) (.c (.i .i32) (.u))))))))))))) (.c (.p (.c (.i .u64) (.c (.i .u64) (.c (.i .u32) (.c (.by) (.c (.by) (.c (.by) (.c (.by) (.c (.z .fn) (.c (.p (.by)) (.c (.i .i32) (.c (.i .i32) (.u))))))))))))) (.c (.s) (.u))))), (.o (.q (.o (.q .r (.q .r (.q .r (.q .r (.q .r (.q .r (.q .r (.q .r (.q (.o .r) (.q .r (.q .r .r)))))))))))) (.q (.o (.q .r (.q .r (.q .r (.q .r (.q .r (.q .r (.q .r (.q .r (.q (.o .r) (.q .r (.q .r .r)))))))))))) (.q (.o (.q .r (.q .r (.q .r (.q .r (.q .r (.q .r (.q .r (.q .r (.q (.o .r) (.q .r (.q .r .r)))))))))))) (.q .r .r)))))) .leaf)))) 16 (.z .pt, .r) (.node (.node (.node (.node .leaf 17 (.p (.c (.i .u64) (.c (.i .u64) (.c (.i .u32) (.c (.by) (.c (.by) (.c (.by) (.c (.by) (.c (.z .fn) (.c (.p (.by)) (.c (.i .i32) (.c (.i .i32) (.u)))))))))))), (.o (.q .r (.q .r (.q .r (.q .r (.q .r (.q .r (.q .r (.q .r (.q (.o .r) (.q .r (.q .r .r))))))))))))) .leaf) 18 (.c (.p (.c (.i .u64) (.c (.i .u64) (.c (.i .u32) (.c (.by) (.c (.by) (.c (.by) (.c (.by) (.c (.z .fn) (.c (.p (.by)) (.c (.i .i32) (.c (.i .i32) (.u))))))))))))) (.u), (.q (.o (.q .r (.q .r (.q .r (.q .r (.q .r (.q .r (.q .r (.q .r (.q (.o .r) (.q .r (.q .r .r)))))))))))) .r)) (.node .leaf 19 (.c (.p (.c (.i .u64) (.c (.i .u64) (.c (.i .u32) (.c (.by) (.c (.by) (.c (.by) (.c (.by) (.c (.z .fn) (.c (.p (.by)) (.c (.i .i32) (.c (.i .i32) (.u))))))))))))) (.u), (.q (.o (.q .r (.q .r (.q .r (.q .r (.q .r (.q .r (.q .r (.q .r (.q (.o .r) (.q .r (.q .r .r)))))))))))) .r)) .leaf)) 20 (.e, .r) (.node (.node .leaf 21 (.i .i32, .r) .leaf) 22 (.l (.l TyF), (.o (.o MdF))) (.node .leaf 23 (.l (.l TyF), (.o (.o MdF))) .leaf))) 24 (.l TyA, (.o (.q .r (.q .r (.q .r (.q (.o (.o MdF)) (.q (.o .r) .r))))))) (.node (.node (.node .leaf 25 (.z .fn, .r) .leaf) 26 (.a 1, (.o .r)) (.node .leaf 27 (.z .fn, .r) .leaf)) 28 (.l TyL, (.o .r)) (.node (.node .leaf 29 (.l (.i .i64), (.o .r)) .leaf) 30 (.c (.l TyL) (.c (.l (.i .i64)) (.c (.l (.i .i64)) (.u))), (.q (.o .r) (.q (.o .r) (.q (.o .r) .r)))) (.node .leaf 31 (.c (.l TyL) (.c (.l (.i .i64)) (.c (.l (.i .i64)) (.u))), (.q (.o .r) (.q (.o .r) (.q (.o .r) .r)))) .leaf))))) 33 (.z .fn, .r) (.node (.node (.node (.node (.node .leaf 34 (.z .fn, .r) .leaf) 35 (.z .fn, .r) (.node .leaf 36 (.z .fn, .r) .leaf)) 37 (.l (.s), (.o .r)) (.node (.node .leaf 38 (.c (.i .i64) (.c (.i .i64) (.c (.i .i64) (.c TyL (.c (.l (.s)) (.u))))), (.q .r (.q .r (.q .r (.q (.o (.o MdF)) (.q (.o .r) .r)))))) .leaf) 39 (.c (.i .i64) (.c (.i .i64) (.c (.i .i64) (.c TyL (.c (.l (.s)) (.u))))), (.q .r (.q .r (.q .r (.q (.o (.o MdF)) (.q (.o .r) .r)))))) (.node .leaf 40 (.z .fn, .r) .leaf))) 41 (.z .fn, .r) (.node (.node (.node .leaf 42 (.z .fn, .r) .leaf) 43 (.z .fn, .r) (.node .leaf 45 (.z .fn, .r) .leaf)) 46 (.z .fn, .r) (.node (.node .leaf 47 (.i .i64, .r) .leaf) 48 (.z .fn, .r) (.node .leaf 49 (.z .fn, .r) .leaf)))) 50 (.z .fn, .r) (.node (.node (.node (.node .leaf 51 (.z .fn, .r) .leaf) 52 (.z .fn, .r) (.node .leaf 54 (.z .fn, .r) .leaf)) 55 (.i .u64, .r) (.node (.node .leaf 56 (.c (.i .i64) (.c (.i .i64) (.c (.s) (.c (.s) (.c (.i .u64) (.c (.i .u64) (.u)))))), MdF) .leaf) 57 (.c (.i .i64) (.c (.i .i64) (.c (.s) (.c (.s) (.c (.i .u64) (.c (.i .u64) (.u)))))), MdF) (.node .leaf 59 (.z .fn, .r) .leaf))) 60 (.z .fn, .r) (.node (.node (.node .leaf 61 (.z .fn, .r) .leaf) 62 (.z .fn, .r) (.node .leaf 64 (.z .fn, .r) .leaf)) 65 (.z .fn, .r) (.node (.node .leaf 66 (.l TyF, (.o MdF)) .leaf) 67 (.c TyL (.c (.i .i64) (.u)), (.q (.o (.o MdF)) (.q .r .r))) .leaf))))) 68 (.c TyL (.c (.i .i64) (.u)), (.q (.o (.o MdF)) (.q .r .r))) (.node (.node (.node (.node (.node (.node .leaf 69 (.z .mp, .r) .leaf) 70 (.z .mp, .r) (.node .leaf 71 (.c (.z .mp) (.c (.i .i64) (.c (.z .mp) (.u))), (.q .r (.q .r (.q .r .r)))) .leaf)) 72 (.c (.z .mp) (.c (.i .i64) (.c (.z .mp) (.u))), (.q .r (.q .r (.q .r .r)))) (.node (.node .leaf 73 (.z .fn, .r) .leaf) 75 (.z .fn, .r) (.node .leaf 76 (.z .fn, .r) .leaf))) 77 (.z .fn, .r) (.node (.node (.node .leaf 79 (.z .fn, .r) .leaf) 80 (.z .fn, .r) (.node .leaf 81 (.z .fn, .r) .leaf)) 82 (.z .fn, .r) (.node (.node .leaf 83 (.z .fn, .r) .leaf) 84 (.z .fn, .r) (.node .leaf 85 (.z .fn, .r) .leaf)))) 87 (.z .fn, .r) (.node (.node (.node (.node .leaf 88 (.z .fn, .r) .leaf) 89 (.e, .r) (.node .leaf 90 (.e, .r) .leaf)) 92 (.z .fn, .r) (.node (.node .leaf 94 (.z .fn, .r) .leaf) 95 (.z .fn, .r) (.node .leaf 97 (.z .fn, .r) .leaf))) 99 (.z .fn, .r) (.node (.node (.node .leaf 100 (.z .fn, .r) .leaf) 101 (.z .fn, .r) (.node .leaf 102 (.z .fn, .r) .leaf)) 103 (.z .fn, .r) (.node (.node .leaf 104 (.z .fn, .r) .leaf) 105 (.z .fn, .r) (.node .leaf 107 (.z .fn, .r) .leaf))))) 108 (.z .fn, .r) (.node (.node (.node (.node (.node .leaf 109 (.z .fn, .r) .leaf) 110 (.i .u64, .r) (.node .leaf 111 (.z .fn, .r) .leaf)) 112 (.z .fn, .r) (.node (.node .leaf 113 (.z .fn, .r) .leaf) 114 (.z .fn, .r) (.node .leaf 115 (.z .fn, .r) .leaf))) 116 (.z .fn, .r) (.node (.node (.node .leaf 117 (.z .fn, .r) .leaf) 119 (.z .fn, .r) (.node .leaf 120 (.z .fn, .r) .leaf)) 121 (.i .i64, .r) (.node (.node .leaf 123 (.z .fn, .r) .leaf) 124 (.z .fn, .r) (.node .leaf 125 (.z .fn, .r) .leaf)))) 126 (.z .fn, .r) (.node (.node (.node (.node .leaf 127 (.z .fn, .r) .leaf) 128 (.i .u32, .r) (.node .leaf 129 (.z .fn, .r) .leaf)) 130 (.i .i64, .r) (.node (.node .leaf 131 (.l (.by), (.o .r)) .leaf) 133 (.z .fn, .r) (.node .leaf 134 (.p (.c (.s) (.c (.s) (.c (.e) (.u)))), (.o (.q .r (.q .r (.q .r .r))))) .leaf))) 135 (.z .fn, .r) (.node (.node (.node .leaf 136 (.z .fn, .r) .leaf) 137 (.z .fn, .r) (.node .leaf 138 (.z .fn, .r) .leaf)) 139 (.z .fn, .r) (.node (.node .leaf 140 (.z .fn, .r) .leaf) 141 (.i .u64, .r) .leaf))))))
noncomputable def sigs : BT Sig := (.node (.node (.node (.node (.node (.node (.node .leaf 3 ⟨[(.l (.l TyF), .r), (.l TyA, .r)], [(.b, .r)], 1⟩ .leaf) 4 ⟨[(.l (.l TyF), .b), (.l TyA, .b), (.l (.s), .b)], [(.b, .r)], 1⟩ .leaf) 5 ⟨[(.l (.l TyF), .b), (.l TyA, .b), (.l (.s), .b)], [(.b, .r)], 1⟩ (.node (.node .leaf 6 ⟨[(.l (.l TyF), .b)], [(.l (.l TyF), (.o (.o MdF)))], 1⟩ .leaf) 7 ⟨[(.l (.l TyF), .b)], [(.a 1, (.o .r))], 1⟩ .leaf)) 8 ⟨[(.l (.l TyF), .r)], [(.c (.l TyL) (.c (.l (.i .i64)) (.c (.l (.i .i64)) (.u))), .r), (.b, .r)], 2⟩ (.node (.node (.node .leaf 9 ⟨[(.l (.l TyF), (.o (.o MdF)))], [(.l (.l TyF), (.o (.o MdF)))], 0⟩ .leaf) 10 ⟨[], [(.b, .r)], 1⟩ .leaf) 11 ⟨[(.a 1, (.o .r)), (.c (.l TyL) (.c (.l (.i .i64)) (.c (.l (.i .i64)) (.u))), .r), (.c (.i .i64) (.c (.i .i64) (.c (.i .i64) (.c TyL (.c (.l (.s)) (.u))))), .r)], [(.c (.l TyL) (.c (.l (.i .i64)) (.c (.l (.i .i64)) (.u))), .r), (.b, .r), (.a 1, (.o .r))], 2⟩ (.node (.node .leaf 12 ⟨[(.a 1, .b), (.c (.l TyL) (.c (.l (.i .i64)) (.c (.l (.i .i64)) (.u))), .r), (.c (.i .i64) (.c (.i .i64) (.c (.i .i64) (.c TyL (.c (.l (.s)) (.u))))), .b)], [(.b, .r)], 1⟩ .leaf) 13 ⟨[], [(.b, .r)], 1⟩ .leaf))) 14 ⟨[(.l (.l TyF), .b)], [(.b, .r)], 1⟩ (.node (.node (.node (.node .leaf 15 ⟨[(.a 1, (.o .r)), (.c (.i .i64) (.c (.i .i64) (.c (.i .i64) (.c TyL (.c (.l (.s)) (.u))))), .b)], [(.a 1, (.o .r))], 0⟩ .leaf) 16 ⟨[(.a 1, .b)], [(.i .i64, .r), (.l (.l TyF), (.o (.o MdF)))], 2⟩ .leaf) 17 ⟨[(.a 1, .b), (.i .i64, .r)], [(.i .i64, .r)], 1⟩ (.node (.node .leaf 18 ⟨[(.a 1, (.o .r)), (.i .i64, .r)], [(.i .i64, .r), (.a 1, (.o .r))], 1⟩ .leaf) 19 ⟨[(.a 1, (.o .r)), (.i .i64, .r)], [(.i .i64, .r), (.a 1, (.o .r))], 1⟩ .leaf)) 20 ⟨[(.a 1, .b)], [(.i .i64, .r)], 1⟩ (.node (.node (.node .leaf 21 ⟨[(.l (.i .i64), .b), (.l (.i .i64), .b)], [(.b, .r)], 1⟩ .leaf) 22 ⟨[(.a 1, .b)], [(.l (.i .i64), (.o .r))], 1⟩ .leaf) 23 ⟨[(.l (.l TyF), .b)], [(.l (.i .i64), (.o .r))], 1⟩ (.node .leaf 24 ⟨[(.s, .r)], [(.i .i64, .r), (.i .i64, .r), (.i .i64, .r)], 3⟩ .leaf)))) 25 ⟨[(.l (.l TyF), .b), (.i .i64, .r)], [(.i .i64, .r), (.c (.i .i64) (.c (.i .i64) (.c (.s) (.c (.s) (.c (.i .u64) (.c (.i .u64) (.u)))))), MdF), (.b, .r)], 3⟩ (.node (.node (.node (.node (.node .leaf 26 ⟨[(.a 1, .b), (.l (.s), .b), (.i .i64, .r), (.i .i64, .r)], [(.l (.s), (.o .r))], 1⟩ .leaf) 27 ⟨[(.a 1, (.o .r))], [(.i .i64, .r), (.a 1, (.o .r))], 1⟩ .leaf) 28 ⟨[(.i .i64, .r), (.i .i64, .r)], [(.i .i64, .r)], 1⟩ (.node (.node .leaf 29 ⟨[(.a 1, .b), (.i .i64, .r)], [(.l (.l TyF), (.o (.o MdF))), (.i .i64, .r)], 2⟩ .leaf) 30 ⟨[(.l (.l TyF), .b), (.l (.l TyF), .b)], [(.b, .r)], 1⟩ .leaf)) 32 ⟨[(.l (.l TyF), .b)], [(.b, .r)], 1⟩ (.node (.node (.node .leaf 33 ⟨[(.a 1, (.o .r)), (.l (.l TyF), .b)], [(.i .i64, .r), (.a 1, (.o .r))], 1⟩ .leaf) 34 ⟨[(.c (.l TyL) (.c (.l (.i .i64)) (.c (.l (.i .i64)) (.u))), .r), (.l (.l TyF), .r)], [(.c (.l TyL) (.c (.l (.i .i64)) (.c (.l (.i .i64)) (.u))), .r), (.i .i64, .r)], 2⟩ .leaf) 35 ⟨[(.l (.l TyF), .b), (.l (.l TyF), .b)], [(.b, .r)], 1⟩ (.node (.node .leaf 36 ⟨[(.c (.l TyL) (.c (.l (.i .i64)) (.c (.l (.i .i64)) (.u))), .r)], [(.c (.l TyL) (.c (.l (.i .i64)) (.c (.l (.i .i64)) (.u))), .r), (.i .i64, .r)], 2⟩ .leaf) 37 ⟨[(.c (.l TyL) (.c (.l (.i .i64)) (.c (.l (.i .i64)) (.u))), .r), (.i .i64, .r)], [(.c (.l TyL) (.c (.l (.i .i64)) (.c (.l (.i .i64)) (.u))), .r), (.i .i64, .r)], 2⟩ .leaf))) 38 ⟨[(.a 1, (.o .r)), (.i .i64, .r)], [(.i .i64, .r), (.a 1, (.o .r))], 1⟩ (.node (.node (.node (.node .leaf 39 ⟨[(.c (.l TyL) (.c (.l (.i .i64)) (.c (.l (.i .i64)) (.u))), .r), (.i .i64, .r)], [(.c (.l TyL) (.c (.l (.i .i64)) (.c (.l (.i .i64)) (.u))), .r), (.i .i64, .r)], 2⟩ .leaf) 40 ⟨[(.c (.l TyL) (.c (.l (.i .i64)) (.c (.l (.i .i64)) (.u))), .r), (.i .i64, .r)], [(.c (.l TyL) (.c (.l (.i .i64)) (.c (.l (.i .i64)) (.u))), .r), (.i .i64, .r)], 2⟩ .leaf) 41 ⟨[(.c (.l TyL) (.c (.l (.i .i64)) (.c (.l (.i .i64)) (.u))), .r), (.i .i64, .r)], [(.l (.l TyF), .r), (.i .i64, .r)], 2⟩ (.node (.node .leaf 42 ⟨[(.c (.l TyL) (.c (.l (.i .i64)) (.c (.l (.i .i64)) (.u))), .b), (.i .i64, .r)], [(.i .i64, .r)], 1⟩ .leaf) 43 ⟨[(.l (.s), .b), (.l (.s), .b)], [(.b, .r)], 1⟩ .leaf)) 44 ⟨[(.c (.l TyL) (.c (.l (.i .i64)) (.c (.l (.i .i64)) (.u))), .b), (.l (.s), .b), (.i .i64, .r), (.i .i64, .r)], [(.l (.s), (.o .r))], 1⟩ (.node (.node (.node .leaf 45 ⟨[(.c (.l TyL) (.c (.l (.i .i64)) (.c (.l (.i .i64)) (.u))), .b)], [(.l (.i .i64), (.o .r))], 1⟩ .leaf) 46 ⟨[(.c (.l TyL) (.c (.l (.i .i64)) (.c (.l (.i .i64)) (.u))), .b)], [(.i .i64, .r)], 1⟩ .leaf) 47 ⟨[(.i .i64, .r), (.s, .r)], [(.c (.i .i64) (.c (.i .i64) (.c (.s) (.c (.s) (.c (.i .u64) (.c (.i .u64) (.u)))))), MdF)], 1⟩ (.node .leaf 49 ⟨[(.a 1, .b)], [(.b, .r)], 1⟩ .leaf))))) 53 ⟨[(.s, .r), (.s, .r)], [(.s, .r), (.b, .r)], 2⟩ (.node (.node (.node (.node (.node (.node .leaf 54 ⟨[(.s, .r), (.s, .r)], [(.s, .r), (.b, .r)], 2⟩ .leaf) 55 ⟨[(.i .i64, .r)], [(.s, .r)], 1⟩ .leaf) 56 ⟨[(.s, .r)], [(.i .i64, .r), (.e, .r)], 2⟩ (.node (.node .leaf 57 ⟨[(.i .i64, .r), (.i .i64, .r)], [(.s, .r), (.i .i64, .r)], 2⟩ .leaf) 58 ⟨[(.l (.s), .b)], [(.l (.s), (.o .r))], 1⟩ .leaf)) 59 ⟨[(.l (.i .i64), .b), (.i .i64, .r)], [(.i .i64, .r), (.b, .r)], 2⟩ (.node (.node (.node .leaf 60 ⟨[(.l (.l TyF), .b), (.l (.l TyF), .b), (.z (.g 61), .r)], [(.b, .r)], 1⟩ .leaf) 61 ⟨[(.l TyF, .b), (.l TyF, .b)], [(.b, .r)], 1⟩ .leaf) 62 ⟨[(.l TyF, .b), (.l TyF, .b)], [(.b, .r)], 1⟩ (.node (.node .leaf 64 ⟨[(.c (.i .i64) (.c (.i .i64) (.c (.s) (.c (.s) (.c (.i .u64) (.c (.i .u64) (.u)))))), .r)], [(.b, .r)], 1⟩ .leaf) 65 ⟨[(.l (.l TyF), .b)], [(.l (.i .i64), (.o .r))], 1⟩ .leaf))) 67 ⟨[(.c (.l TyL) (.c (.l (.i .i64)) (.c (.l (.i .i64)) (.u))), .r), (.i .i64, .r), (.i .i64, .r)], [(.c (.l TyL) (.c (.l (.i .i64)) (.c (.l (.i .i64)) (.u))), .r)], 1⟩ (.node (.node (.node (.node .leaf 68 ⟨[(.l (.i .i64), .b), (.i .i64, .r)], [(.b, .r)], 1⟩ .leaf) 69 ⟨[(.c (.l TyL) (.c (.l (.i .i64)) (.c (.l (.i .i64)) (.u))), .b), (.i .i64, .r)], [(.b, .r)], 1⟩ .leaf) 70 ⟨[(.l (.s), .b)], [(.l (.s), (.o .r))], 1⟩ (.node (.node .leaf 71 ⟨[(.s, .r)], [(.i .i64, .r), (.i .i64, .r), (.i .i64, .r)], 3⟩ .leaf) 72 ⟨[(.l (.l TyF), .b)], [(.l (.i .i64), (.o .r))], 1⟩ .leaf)) 75 ⟨[(.s, .r), (.s, .r)], [(.s, .r), (.b, .r)], 2⟩ (.node (.node (.node .leaf 76 ⟨[(.s, .r), (.s, .r)], [(.s, .r), (.b, .r)], 2⟩ .leaf) 79 ⟨[(.i .i64, .r)], [(.s, .r)], 1⟩ .leaf) 80 ⟨[(.l (.s), .b)], [(.l (.s), (.o .r))], 1⟩ (.node .leaf 81 ⟨[(.l (.s), (.o .r)), (.z (.g 82), .r)], [(.l (.s), (.o .r))], 0⟩ .leaf)))) 82 ⟨[(.s, .r), (.s, .r)], [(.i .i64, .r)], 1⟩ (.node (.node (.node (.node (.node .leaf 83 ⟨[(.i .i64, .r), (.i .i64, .r)], [(.i .i64, .r)], 1⟩ .leaf) 84 ⟨[(.s, .r), (.s, .r)], [(.i .i64, .r)], 1⟩ .leaf) 85 ⟨[(.l (.i .i64), .b)], [(.i .i64, .r)], 1⟩ (.node (.node .leaf 86 ⟨[(.i .i64, .r), (.i .i64, .r)], [(.i .i64, .r)], 1⟩ .leaf) 89 ⟨[(.l (.i .i64), (.o .r))], [(.l (.i .i64), (.o .r)), (.l (.i .i64), (.o .r))], 1⟩ .leaf)) 90 ⟨[(.s, .r), (.s, .r)], [(.b, .r)], 1⟩ (.node (.node (.node .leaf 91 ⟨[(.i .i64, .r), (.i .i64, .r)], [(.s, .r), (.i .i64, .r)], 2⟩ .leaf) 102 ⟨[(.s, .r), (.s, .r)], [(.b, .r)], 1⟩ .leaf) 103 ⟨[(.s, .r), (.s, .r)], [(.b, .r)], 1⟩ (.node (.node .leaf 109 ⟨[(.i .i64, .r)], [(.s, .r)], 1⟩ .leaf) 110 ⟨[(.s, .r), (.i .i64, .r)], [(.s, .r)], 1⟩ .leaf))) 111 ⟨[(.l (.s), (.o .r)), (.i .i64, .r), (.z (.g 82), .r)], [(.l (.s), (.o .r))], 0⟩ (.node (.node (.node (.node .leaf 112 ⟨[(.i .i64, .r)], [(.b, .r)], 1⟩ .leaf) 113 ⟨[(.s, .r)], [(.b, .r)], 1⟩ .leaf) 114 ⟨[(.i .i64, .r)], [(.b, .r)], 1⟩ (.node (.node .leaf 115 ⟨[(.i .i64, .r)], [(.s, .r)], 1⟩ .leaf) 126 ⟨[(.s, .r), (.s, .r)], [(.b, .r)], 1⟩ .leaf)) 131 ⟨[(.l (.s), (.o .r)), (.i .i64, .r), (.i .i64, .r), (.z (.g 82), .r)], [(.l (.s), (.o .r))], 0⟩ (.node (.node (.node .leaf 132 ⟨[(.l (.s), (.o .r)), (.i .i64, .r), (.i .i64, .r), (.i .i64, .r), (.z (.g 82), .r)], [(.l (.s), (.o .r))], 0⟩ .leaf) 133 ⟨[(.i .i64, .r)], [(.s, .r)], 1⟩ .leaf) 142 ⟨[(.l (.s), (.o .r)), (.i .i64, .r), (.i .i64, .r), (.i .i64, .r), (.z (.g 82), .r)], [(.l (.s), (.o .r))], 0⟩ (.node .leaf 149 ⟨[(.l (.s), (.o .r)), (.i .i64, .r), (.i .i64, .r), (.i .i64, .r), (.z (.g 82), .r)], [(.l (.s), (.o .r))], 0⟩ .leaf))))))
noncomputable def bodies : BT Func := (.node (.node (.node (.node (.node (.node (.node .leaf 3 Go.Proofs.Tryz.f3 .leaf) 4 Go.Proofs.Tryz.f4 .leaf) 5 Go.Proofs.Tryz.f5 (.node .leaf 6 Go.Proofs.Tryz.f6 .leaf)) 8 Go.Proofs.Tryz.f8 (.node (.node (.node .leaf 9 Go.Proofs.Tryz.f9 .leaf) 10 Go.Proofs.Tryz.f10 .leaf) 11 Go.Proofs.Tryz.f11 (.node .leaf 12 Go.Proofs.Tryz.f12 .leaf))) 13 Go.Proofs.Tryz.f13 (.node (.node (.node (.node .leaf 15 Go.Proofs.Tryz.f15 .leaf) 21 Go.Proofs.Tryz.f21 .leaf) 24 Go.Proofs.Tryz.f24 (.node .leaf 25 Go.Proofs.Tryz.f25 .leaf)) 26 Go.Proofs.Tryz.f26 (.node (.node .leaf 28 Go.Proofs.Tryz.f28 .leaf) 30 Go.Proofs.Tryz.f30 (.node .leaf 32 Go.Proofs.Tryz.f32 .leaf)))) 34 Go.Proofs.Tryz.f34 (.node (.node (.node (.node (.node .leaf 35 Go.Proofs.Tryz.f35 .leaf) 36 Go.Proofs.Tryz.f36 .leaf) 37 Go.Proofs.Tryz.f37 (.node .leaf 39 Go.Proofs.Tryz.f39 .leaf)) 40 Go.Proofs.Tryz.f40 (.node (.node .leaf 41 Go.Proofs.Tryz.f41 .leaf) 42 Go.Proofs.Tryz.f42 (.node .leaf 43 Go.Proofs.Tryz.f43 .leaf))) 44 Go.Proofs.Tryz.f44 (.node (.node (.node (.node .leaf 45 Go.Proofs.Tryz.f45 .leaf) 46 Go.Proofs.Tryz.f46 .leaf) 47 Go.Proofs.Tryz.f47 (.node .leaf 53 Go.Proofs.Tryz.f53 .leaf)) 54 Go.Proofs.Tryz.f54 (.node (.node .leaf 55 Go.Proofs.Tryz.f55 .leaf) 57 Go.Proofs.Tryz.f57 (.node .leaf 58 Go.Proofs.Tryz.f58 .leaf))))) 60 Go.Proofs.Tryz.f60 (.node (.node (.node (.node (.node (.node .leaf 61 Go.Proofs.Tryz.f61 .leaf) 62 Go.Proofs.Tryz.f62 .leaf) 64 Go.Proofs.Tryz.f64 (.node .leaf 65 Go.Proofs.Tryz.f65 .leaf)) 67 Go.Proofs.Tryz.f67 (.node (.node .leaf 68 Go.Proofs.Tryz.f68 .leaf) 69 Go.Proofs.Tryz.f69 (.node .leaf 70 Go.Proofs.Tryz.f70 .leaf))) 71 Go.Proofs.Tryz.f71 (.node (.node (.node (.node .leaf 72 Go.Proofs.Tryz.f72 .leaf) 75 Go.Proofs.Tryz.f75 .leaf) 76 Go.Proofs.Tryz.f76 (.node .leaf 79 Go.Proofs.Tryz.f79 .leaf)) 81 Go.Proofs.Tryz.f81 (.node (.node .leaf 82 Go.Proofs.Tryz.f82 .leaf) 83 Go.Proofs.Tryz.f83 (.node .leaf 84 Go.Proofs.Tryz.f84 .leaf)))) 85 Go.Proofs.Tryz.f85 (.node (.node (.node (.node (.node .leaf 86 Go.Proofs.Tryz.f86 .leaf) 89 Go.Proofs.Tryz.f89 .leaf) 90 Go.Proofs.Tryz.f90 (.node .leaf 91 Go.Proofs.Tryz.f91 .leaf)) 102 Go.Proofs.Tryz.f102 (.node (.node .leaf 103 Go.Proofs.Tryz.f103 .leaf) 111 Go.Proofs.Tryz.f111 (.node .leaf 112 Go.Proofs.Tryz.f112 .leaf))) 113 Go.Proofs.Tryz.f113 (.node (.node (.node (.node .leaf 114 Go.Proofs.Tryz.f114 .leaf) 115 Go.Proofs.Tryz.f115 .leaf) 126 Go.Proofs.Tryz.f126 (.node .leaf 131 Go.Proofs.Tryz.f131 .leaf)) 132 Go.Proofs.Tryz.f132 (.node (.node .leaf 133 Go.Proofs.Tryz.f133 .leaf) 142 Go.Proofs.Tryz.f142 (.node .leaf 149 Go.Proofs.Tryz.f149 .leaf))))))
noncomputable def exts : BT Func := (.node (.node (.node (.node (.node .leaf 7 Go.Proofs.Tryz.f7 .leaf) 14 Go.Proofs.Tryz.f14 .leaf) 16 Go.Proofs.Tryz.f16 (.node .leaf 17 Go.Proofs.Tryz.f17 .leaf)) 18 Go.Proofs.Tryz.f18 (.node (.node (.node .leaf 19 Go.Proofs.Tryz.f19 .leaf) 20 Go.Proofs.Tryz.f20 .leaf) 22 Go.Proofs.Tryz.f22 (.node .leaf 23 Go.Proofs.Tryz.f23 .leaf))) 27 Go.Proofs.Tryz.f27 (.node (.node (.node (.node .leaf 29 Go.Proofs.Tryz.f29 .leaf) 33 Go.Proofs.Tryz.f33 .leaf) 38 Go.Proofs.Tryz.f38 (.node .leaf 49 Go.Proofs.Tryz.f49 .leaf)) 56 Go.Proofs.Tryz.f56 (.node (.node (.node .leaf 59 Go.Proofs.Tryz.f59 .leaf) 80 Go.Proofs.Tryz.f80 .leaf) 109 Go.Proofs.Tryz.f109 (.node .leaf 110 Go.Proofs.Tryz.f110 .leaf))))
noncomputable def lives : BT (List Nat) := (.node (.node (.node (.node (.node (.node (.node .leaf 12295 [1, 6, 7, 8] .leaf) 12298 [1, 6, 7, 9] (.node .leaf 12304 [6, 7, 10] .leaf)) 14342 [1, 6, 7, 8, 29] (.node (.node .leaf 16391 [1, 2, 7, 8] .leaf) 16396 [1, 2, 7, 9, 10, 11] (.node .leaf 16399 [1, 2, 7, 9, 10, 11, 12] .leaf))) 16404 [1, 2, 7, 10, 13] (.node (.node (.node .leaf 16409 [2, 7, 10] .leaf) 16411 [2, 7, 10, 14, 15] (.node .leaf 16412 [2, 7, 10, 14, 15] .leaf)) 18456 [2, 7, 10, 87] (.node (.node .leaf 18464 [2, 7, 10, 14, 15, 122] .leaf) 20490 [0, 1, 2, 7, 8, 9] (.node .leaf 20491 [0, 1, 2, 7, 8, 9] .leaf)))) 20493 [0, 1, 2, 7, 8, 9] (.node (.node (.node (.node .leaf 20499 [0, 7, 8, 12, 13] .leaf) 20500 [0, 7, 8, 12, 13] (.node .leaf 22544 [0, 1, 2, 7, 8, 9, 86] .leaf)) 22552 [0, 7, 8, 12, 13, 120] (.node (.node .leaf 24579 [0, 3, 4] .leaf) 36865 [0, 2] (.node .leaf 36868 [0, 2, 3] .leaf))) 45080 [0, 4, 5, 6, 8, 9, 10, 11, 31] (.node (.node (.node .leaf 49159 [7] .leaf) 49167 [5, 11, 12, 13] (.node .leaf 49175 [14, 16] .leaf)) 49176 [14, 16, 17] (.node (.node .leaf 51206 [7, 56] .leaf) 51222 [14, 16, 132] .leaf)))) 53252 [1] (.node (.node (.node (.node (.node .leaf 55299 [1, 32] .leaf) 86020 [0, 1, 5] (.node .leaf 98311 [0, 2, 5] .leaf)) 98312 [0, 2, 5, 24, 25, 26] (.node (.node .leaf 98317 [0, 2, 5, 24, 25, 26] .leaf) 98324 [2, 3] (.node .leaf 100364 [0, 2, 5, 9, 10, 24, 25, 26, 41] .leaf))) 100371 [2, 3, 64] (.node (.node (.node .leaf 102404 [1, 4, 5, 6, 15, 16, 17] .leaf) 102407 [1, 4, 5, 6, 7, 15, 16, 17, 22, 23, 24] (.node .leaf 102413 [4, 5, 6] .leaf)) 106502 [2, 3, 9, 10, 24, 25, 26] (.node (.node .leaf 106516 [2, 3, 9, 10, 12, 15, 16, 24, 25, 26] .leaf) 106518 [2, 3, 9, 10, 24, 25, 26] (.node .leaf 108565 [2, 3, 9, 10, 12, 24, 25, 26, 63] .leaf)))) 131075 [0] (.node (.node (.node (.node .leaf 131076 [0, 3] .leaf) 131079 [0, 3, 4] (.node .leaf 131080 [0, 3, 4] .leaf)) 131087 [5, 6] (.node (.node .leaf 133122 [0, 14] .leaf) 133132 [0, 3, 4, 92] (.node .leaf 143364 [0, 1, 5] .leaf))) 143369 [0, 1, 5, 6] (.node (.node (.node .leaf 159747 [1, 2, 4] .leaf) 161794 [1, 2, 4, 11] (.node .leaf 163843 [1, 2, 4, 6, 7] .leaf)) 163844 [1, 2, 4, 6, 7] (.node (.node .leaf 172035 [1, 2] .leaf) 174082 [1, 2, 13] .leaf))))) 176132 [0, 1, 5] (.node (.node (.node (.node (.node (.node .leaf 180229 [2, 3, 9, 10, 11, 12] .leaf) 180230 [2, 3, 9, 10, 11, 12] (.node .leaf 182282 [2, 3, 9, 10, 11, 12, 66] .leaf)) 184323 [1, 3, 4] (.node (.node .leaf 184324 [1, 3, 4] .leaf) 184330 [3, 5, 6] (.node .leaf 184331 [3, 5, 6] .leaf))) 184335 [3, 5, 6, 7] (.node (.node (.node .leaf 184336 [3, 5, 6, 7] .leaf) 188419 [1, 3, 4] (.node .leaf 188420 [1, 3, 4] .leaf)) 233479 [0, 1] (.node (.node .leaf 235522 [0, 1, 6] .leaf) 235524 [0, 1, 13] (.node .leaf 245764 [1, 2, 15, 16, 17] .leaf)))) 253956 [0, 1, 12, 13] (.node (.node (.node (.node .leaf 266243 [0, 3, 4] .leaf) 266246 [0, 3, 4, 5] (.node .leaf 278530 [0, 1, 5] .leaf)) 286723 [3, 4] (.node (.node .leaf 286726 [3, 4, 5, 6] .leaf) 286727 [3, 4, 5, 6] (.node .leaf 290819 [0, 5, 6] .leaf))) 290820 [0, 5, 6] (.node (.node (.node .leaf 290824 [0, 5, 7] .leaf) 290825 [0, 5, 7] (.node .leaf 292870 [0, 5, 6, 29] .leaf)) 292876 [0, 5, 7, 54] (.node (.node .leaf 348163 [3, 6, 7, 8] .leaf) 364547 [0, 3, 4] .leaf)))) 364548 [0, 3, 4] (.node (.node (.node (.node (.node .leaf 364551 [0, 3, 4, 5] .leaf) 364552 [0, 3, 4, 5] (.node .leaf 372739 [0, 1] .leaf)) 372741 [0, 1] (.node (.node .leaf 374786 [0, 1, 11] .leaf) 374788 [0, 1, 21] (.node .leaf 454658 [0, 1, 2, 6, 7, 8] .leaf))) 454663 [0, 1, 2, 6] (.node (.node (.node .leaf 454665 [0, 1, 2, 6, 7, 8] .leaf) 454672 [0, 1, 2, 6] (.node .leaf 471042 [3] .leaf)) 536577 [0, 1, 2, 3, 8] (.node (.node .leaf 536578 [0, 1, 2, 3, 8] .leaf) 536580 [0, 1, 2, 3, 8, 9] .leaf))) 536582 [0, 1, 2, 3, 8, 9] (.node (.node (.node (.node .leaf 540675 [0, 1, 4, 10, 11] .leaf) 540681 [0, 10, 13] (.node .leaf 540687 [0, 2, 4, 14, 15] .leaf)) 540693 [0, 14, 17] (.node (.node .leaf 540704 [0, 1, 2, 3, 4, 18, 19, 20, 21] .leaf) 540705 [0, 1, 2, 3, 4, 18, 19, 20, 21, 22] (.node .leaf 540713 [0, 1, 3, 4, 18, 20, 24] .leaf))) 540715 [0, 3, 4, 18, 24] (.node (.node (.node .leaf 542760 [0, 1, 2, 3, 4, 18, 20, 24, 185] .leaf) 542762 [0, 1, 3, 4, 18, 20, 24, 199] (.node .leaf 542764 [0, 3, 4, 18, 24, 213] .leaf)) 544770 [0, 3] (.node (.node .leaf 581634 [0, 2, 4, 10, 11] .leaf) 610305 [0, 1, 2, 3, 10] .leaf))))))
open NqG
noncomputable def ext7 : Nat → Tup [(Lv.LvT, .b)] → Option (Tup [(.a 1, .o .r)]) := fun _ x => Lv.xNew x.1
noncomputable def ext14 : Nat → Tup [(Lv.LvT, .b)] → Option (Tup [(.b, .r)]) := fun _ x => some (Lv.validM x.1, ())
noncomputable def ext16 : Nat → Tup [(.a 1, .b)] → Option (Tup [(.i .i64, .r), (Lv.LvT, .o (.o Lv.FQ))]) := fun _ x => Lv.xCurrent x.1
noncomputable def ext17 : Nat → Tup [(.a 1, .b), (.i .i64, .r)] → Option (Tup [(.i .i64, .r)]) := fun _ x => Lv.xRefs x.1 x.2.1
noncomputable def ext18 : Nat → Tup [(.a 1, .o .r), (.i .i64, .r)] → Option (Tup [(.i .i64, .r), (.a 1, .o .r)]) := fun _ x => Lv.xDrop x.1 x.2.1
noncomputable def ext19 : Nat → Tup [(.a 1, .o .r), (.i .i64, .r)] → Option (Tup [(.i .i64, .r), (.a 1, .o .r)]) := fun _ x => Lv.xEnd x.1 x.2.1
noncomputable def ext20 : Nat → Tup [(.a 1, .b)] → Option (Tup [(.i .i64, .r)]) := fun _ x => Lv.xLen x.1
noncomputable def ext22 : Nat → Tup [(.a 1, .b)] → Option (Tup [(.l (.i .i64), .o .r)]) := fun _ x => Lv.xTables x.1
noncomputable def ext23 : Nat → Tup [(Lv.LvT, .b)] → Option (Tup [(.l (.i .i64), .o .r)]) := fun _ x => bif Lv.smallN x.1 then some (LvS1.numsM x.1, ()) else none
noncomputable def ext27 : Nat → Tup [(.a 1, .o .r)] → Option (Tup [(.i .i64, .r), (.a 1, .o .r)]) := fun _ x => Lv.xHold x.1
noncomputable def ext29 : Nat → Tup [(.a 1, .b), (.i .i64, .r)] → Option (Tup [(Lv.LvT, .o (.o Lv.FQ)), (.i .i64, .r)]) := fun _ x => Lv.xLevels x.1 x.2.1
noncomputable def ext33 : Nat → Tup [(.a 1, .o .r), (Lv.LvT, .b)] → Option (Tup [(.i .i64, .r), (.a 1, .o .r)]) := fun _ x => Lv.xInstall x.1 x.2.1
noncomputable def ext38 : Nat → Tup [(.a 1, .o .r), (.i .i64, .r)] → Option (Tup [(.i .i64, .r), (.a 1, .o .r)]) := fun _ x => Lv.xBegin x.1 x.2.1
noncomputable def ext49 : Nat → Tup [(.a 1, .b)] → Option (Tup [(.b, .r)]) := fun _ x => Lv.xNone x.1
noncomputable def ext56 : Nat → Tup [(.s, .r)] → Option (Tup [(.i .i64, .r), (.e, .r)]) := fun _ x => bif Nat.ble x.1.length 2147483648 then some ((atoi x.1).1, (atoi x.1).2, ()) else none
noncomputable def ext59 : Nat → Tup [(.l (.i .i64), .b), (.i .i64, .r)] → Option (Tup [(.i .i64, .r), (.b, .r)]) := fun _ x => bif Nat.ble (List.length x.1) 1073741824 && decide ((x.1 : List Int).Pairwise (· ≤ ·)) then some (((x.1 : List Int).countP (fun y => decide (y < x.2.1)) : Int), (x.1 : List Int).contains x.2.1, ()) else none
noncomputable def ext80 : Nat → Tup [(.l .s, .b)] → Option (Tup [(.l .s, .o .r)]) := fun _ x => bif Nat.ble (List.length x.1) 1073741824 then some (x.1, ()) else none
noncomputable def ext109 : Nat → Tup [(.i .i64, .r)] → Option (Tup [(.s, .r)]) := fun _ x => bif decide (-9223372036854775808 ≤ x.1) && decide (x.1 ≤ 9223372036854775807) then some (Lib.itoa x.1, ()) else none
noncomputable def ext110 : Nat → Tup [(.s, .r), (.i .i64, .r)] → Option (Tup [(.s, .r)]) := fun _ x => bif decide (0 ≤ x.2.1) && decide (x.2.1 ≤ 1073741824) && Nat.ble x.1.length 100 then some (Lib.repeatL x.1 x.2.1.toNat, ()) else none
noncomputable def ext : (g : FuncId) → Option (Nat → Tup ((sigs.get g).getD ⟨[], [], 0⟩).ps → Option (Tup ((sigs.get g).getD ⟨[], [], 0⟩).rs))
 | 7 => some ext7
 | 14 => some ext14
 | 16 => some ext16
 | 17 => some ext17
 | 18 => some ext18
 | 19 => some ext19
 | 20 => some ext20
 | 22 => some ext22
 | 23 => some ext23
 | 27 => some ext27
 | 29 => some ext29
 | 33 => some ext33
 | 38 => some ext38
 | 49 => some ext49
 | 56 => some ext56
 | 59 => some ext59
 | 80 => some ext80
 | 109 => some ext109
 | 110 => some ext110
 | _ => none
noncomputable def lims : BT Nat := (.node (.node .leaf 22 1073741824 (.node (.node .leaf 23 1073741824 .leaf) 28 1073741824 .leaf)) 29 1073741824 (.node .leaf 37 1073741824 (.node .leaf 66 1073741824 .leaf)))
noncomputable def G : Prg where
 ty T := tys.get T
 lim T := (lims.get T).getD 0
 cmp T := memb [57] T
 sig g := (sigs.get g).getD ⟨[], [], 0⟩
 body g := bodies.get g
 ext g := ext g
 live g r := lives.get (Nat.add (Nat.mul g 4096) r)
end LvG
end
section
/-! What stays in the world; the library's functions as L has them. -/
namespace Go.Proofs.YtligonpmifolfaaGreatDoor
open Go.RowKit Go.Shelf
def isErr (v : Value) : Prop := v = .nilIface ∨ ∃ te pe, v = .iface te pe
def Tabs (w : World) : Prop := (∃ e, w.cell? ⟨0, 0, none⟩ = some e ∧ isErr e) ∧ (∃ e, w.cell? ⟨1, 0, none⟩ = some e ∧ isErr e) ∧ Lib.TabIs Tryz.prog w "internal/strconv.uint64pow10" .u64 Lib.pow10Tab
def kw : Lk.KW := ⟨Tabs, 3⟩
abbrev ax : Lk.Ax := Lv.ax
theorem cell_keep {w w' : World} {B : List Nat} (hx : Lk.Ext B w w') {a : Addr} {v : Value} (hB : a.block ∉ B) (h : w.cell? a = some v) : w'.cell? a = some v := by
 have hlt : a.block < w.heap.size := by
  unfold World.cell? at h
  rcases Nat.lt_or_ge a.block w.heap.size with h' | h'
  ·exact h'
  ·rw [Array.getElem?_eq_none h'] at h; cases h
 unfold World.cell? at h ⊢
 rw [hx.block a.block hlt hB]
 exact h
theorem pow_at : Tryz.prog.globalNamed "internal/strconv.uint64pow10" = some 2 := by kernel_rfl
theorem pow_lt {w : World} (h : Lib.TabIs Tryz.prog w "internal/strconv.uint64pow10" .u64 Lib.pow10Tab) : 2 < w.heap.size := by
 rcases Nat.lt_or_ge 2 w.heap.size with h' | h'
 ·exact h'
 ·unfold Lib.TabIs World.var? at h
  rw [pow_at, Option.bind_some, Array.getElem?_eq_none h'] at h
  cases h
theorem pow_keep {w w' : World} {B : List Nat} (h : Lib.TabIs Tryz.prog w "internal/strconv.uint64pow10" .u64 Lib.pow10Tab) (hB : 2 ∉ B) (hx : Lk.Ext B w w') : Lib.TabIs Tryz.prog w' "internal/strconv.uint64pow10" .u64 Lib.pow10Tab := by
 have hl := pow_lt h
 unfold Lib.TabIs World.var? at h ⊢
 rw [pow_at, Option.bind_some] at h ⊢
 rw [hx.block 2 hl hB]
 exact h
theorem tabs_keep (w w' : World) (B : List Nat) (h : Tabs w) (hB : ∀ b ∈ B, 3 ≤ b) (hx : Lk.Ext B w w') : Tabs w' := by
 have hn : ∀ k, k < 3 → k ∉ B := fun k hk hkB => by have := hB k hkB; omega
 obtain ⟨⟨e, h1, h2⟩, ⟨f, h3, h4⟩, h5⟩ := h
 exact ⟨⟨e, cell_keep hx (hn 0 (by omega)) h1, h2⟩, ⟨f, cell_keep hx (hn 1 (by omega)) h3, h4⟩, pow_keep h5 (hn 2 (by omega)) hx⟩
theorem ads_cons {ads : List Lk.DV} {t : Lk.Ty} {m : Lk.Md} {x : Lk.E t} {rest : List Lk.AV} (h : ads.map Lk.DV.av = ⟨t, m, x⟩ :: rest) : ∃ sh ads', ads = ⟨t, m, x, sh⟩ :: ads' ∧ ads'.map Lk.DV.av = rest := by
 cases ads with
 | nil => cases h
 | cons d r =>
  obtain ⟨t', m', x', sh⟩ := d
  simp only [List.map_cons, Lk.DV.av, List.cons.injEq, Lk.AV.mk.injEq] at h
  obtain ⟨⟨rfl, rfl, hx⟩, hr⟩ := h
  obtain rfl := eq_of_heq hx
  exact ⟨sh, r, rfl, hr⟩
theorem ads_nil {ads : List Lk.DV} (h : ads.map Lk.DV.av = []) : ads = [] := List.map_eq_nil_iff.1 h
theorem ext_of_below {w w' : World} (h : Below w.heap.size w w') : Lk.Ext [] w w' := ⟨h.os, h.tape, h.output, h.size, fun b hb _ => h.block b hb⟩
theorem res_flat {w w' : World} {S : Nat → Prop} {B : List Nat} {us : List Lk.AV} {nr : Nat} {ads : List Lk.DV} {v : Value} (rds : List Lk.DV) (h1 : rds.map Lk.DV.av = us) (hS : ∀ b, S b → b < w.heap.size) (hsz : w.heap.size ≤ w'.heap.size)
  (hh : ∀ d ∈ rds, d.hold ax S S w') (hn : Lk.blsOf rds = []) (hv : v = Lk.resV (τ := ax) (rds.take nr)) (hd : rds.drop nr = []) (ha : (ads.filter fun d => Lk.isO d.m) = []) :
  Lk.ResAre (τ := ax) w w' S B us nr ads v :=
 ⟨⟨rds, S, h1, fun _ h => h, fun _ h => .inl h, fun b hb => Nat.lt_of_lt_of_le (hS b hb) hsz, hh, by rw [hn]; simp, by rw [hn]; simp, hv, by rw [hd, ha]⟩⟩
theorem inR64 {n : Int} (h0 : -9223372036854775808 ≤ n) (h1 : n ≤ 9223372036854775807) : Lk.inR .i64 n := ⟨h0, h1⟩
theorem itoa_len (n : Int) (h0 : -9223372036854775808 ≤ n) (h1 : n ≤ 9223372036854775807) : (Lib.itoa n).length ≤ 21 := by
 have key : ∀ (k u : Nat), u < 10 ^ (k + 1) → (Lib.decDigits u).length ≤ k + 1 := by
  intro k
  induction k with
  | zero => intro u h; rw [Lib.decDigits, dif_pos (by simpa using h)]; simp
  | succ k ih =>
   intro u h
   rw [Lib.decDigits]
   split
   ·simp
   ·have := ih (u / 10) (by rw [Nat.pow_succ] at h; omega)
    simp; omega
 unfold Lib.itoa
 split
 ·have := key 19 n.natAbs (by omega)
  simp; omega
 ·have := key 19 n.toNat (by omega)
  omega
theorem ok_itoa : Lk.FnOk (τ := ax) (Kw := kw) Tryz.prog 109 ⟨[(.i .i64, .r)], [(.s, .r)], 1⟩ (fun x => bif decide (-9223372036854775808 ≤ x.1) && decide (x.1 ≤ 9223372036854775807) then some (Lib.itoa x.1, ()) else none) := by
 rintro ⟨n, _⟩ res hx w S Sb ads hK hs ha hargs
 obtain ⟨sh, ads', rfl, ha1⟩ := ads_cons ha
 obtain rfl := ads_nil ha1
 have hx : (bif decide (-9223372036854775808 ≤ n) && decide (n ≤ 9223372036854775807) then some (Lib.itoa n, ()) else none) = some res := hx
 cases hb : (decide (-9223372036854775808 ≤ n) && decide (n ≤ 9223372036854775807)) with
 | false => rw [hb] at hx; cases hx
 | true =>
  rw [hb] at hx
  cases hx
  rw [Bool.and_eq_true, decide_eq_true_eq, decide_eq_true_eq] at hb
  refine (show Calls Tryz.prog 109 #[.int .i64 n] w _ from ?_)
  refine (Tryz.strconv_Itoa n hb.1 hb.2 w hK.2.2).mono fun e w' ⟨he, k, os, hw⟩ => ⟨_, he, hw ▸ ext_of_below (Lib.below_grow _ w (Nat.le_refl _) k os), ?_⟩
  have hq := itoa_len n hb.1 hb.2
  have hsz : w.heap.size ≤ w'.heap.size := by rw [hw]; exact (Lib.below_grow _ w (Nat.le_refl _) k os).size
  refine res_flat [⟨.s, .r, Lib.itoa n, ()⟩] rfl (fun b hb => hs b (.inl hb)) hsz ?_ (by simp [Lk.blsOf, Lk.DV.bl, Lk.bl]) rfl rfl rfl
  intro d hd
  obtain rfl := List.mem_singleton.1 hd
  exact ⟨rfl, by simp only [Lk.big]; omega⟩
theorem ok_repeat : Lk.FnOk (τ := ax) (Kw := kw) Tryz.prog 110 ⟨[(.s, .r), (.i .i64, .r)], [(.s, .r)], 1⟩ (fun x => bif decide (0 ≤ x.2.1) && decide (x.2.1 ≤ 1073741824) && Nat.ble x.1.length 100 then some (Lib.repeatL x.1 x.2.1.toNat, ()) else none) := by
 rintro ⟨s, n, _⟩ res hx w S Sb ads hK hs ha hargs
 obtain ⟨sh, ads', rfl, ha1⟩ := ads_cons ha
 obtain ⟨sh2, ads2, rfl, ha2⟩ := ads_cons ha1
 obtain rfl := ads_nil ha2
 have hx : (bif decide (0 ≤ n) && decide (n ≤ 1073741824) && Nat.ble (s : List UInt8).length 100 then some (Lib.repeatL s n.toNat, ()) else none) = some res := hx
 cases hb : (decide (0 ≤ n) && decide (n ≤ 1073741824) && Nat.ble (s : List UInt8).length 100) with
 | false => rw [hb] at hx; cases hx
 | true =>
  rw [hb] at hx
  cases hx
  rw [Bool.and_eq_true, Bool.and_eq_true, decide_eq_true_eq, decide_eq_true_eq, Nat.ble_eq] at hb
  obtain ⟨⟨h1, h2⟩, h3⟩ := hb
  have h1 : (0 : Int) ≤ (show Int from n) := h1
  have h2 : (show Int from n) ≤ 1073741824 := h2
  generalize hn : (show Int from n) = n' at h1 h2
  have hn : n = n' := hn
  subst hn
  have hsz : (ByteArray.mk (s : List UInt8).toArray).size = (s : List UInt8).length := by simp [← ByteArray.size_data]
  have hm : (s : List UInt8).length * n.toNat ≤ 100 * 1073741824 := Nat.mul_le_mul h3 (by omega)
  have hc := Tryz.strings_Repeat ⟨(s : List UInt8).toArray⟩ n.toNat w (by omega) (by rw [hsz]; omega)
  have e : ((n.toNat : Nat) : Int) = n := by omega
  rw [e] at hc
  refine (show Calls Tryz.prog 110 #[.string ⟨(s : List UInt8).toArray⟩, .int .i64 n] w _ from ?_)
  refine hc.mono fun e w' ⟨he, hw⟩ => ⟨_, he, ext_of_below hw, ?_⟩
  refine res_flat [⟨.s, .r, Lib.repeatL s n.toNat, ()⟩] rfl (fun b hb => hs b (.inl hb)) hw.size ?_ (by simp [Lk.blsOf, Lk.DV.bl, Lk.bl]) rfl rfl rfl
  intro d hd
  obtain rfl := List.mem_singleton.1 hd
  refine ⟨rfl, ?_⟩
  rw [Lib.repeatL_length, Nat.mul_comm]
  simp only [Lk.big]; omega
theorem parseUint_lt (l : List UInt8) (v : Int) (h : Lib.atoiAll l = .ok v) : -9223372036854775808 ≤ v ∧ v ≤ 9223372036854775807 := by
 unfold Lib.atoiAll at h
 split at h
 ·cases h
 ·simp only at h
  split at h
  ·cases h
  ·cases h
  ·split at h
   ·cases h
   ·split at h
    ·cases h
    ·injection h with h
     subst h
     split <;> omega
theorem atoi_call (s : List UInt8) (hs : s.length ≤ 2147483648) (w : World) (hE : Tabs w) :
  Calls Tryz.prog 56 #[.string ⟨s.toArray⟩] w (fun e w' => (∃ ev, e = .returned (.tuple #[.int .i64 (NqG.atoi s).1, ev]) ∧ (((NqG.atoi s).2 = false ∧ ev = .nilIface) ∨ ((NqG.atoi s).2 = true ∧ ∃ t u, ev = .iface t u))) ∧ Below w.heap.size w w') ∧
   -9223372036854775808 ≤ (NqG.atoi s).1 ∧ (NqG.atoi s).1 ≤ 9223372036854775807 := by
 have hsz : (ByteArray.mk s.toArray).size = s.length := by simp [← ByteArray.size_data]
 obtain ⟨⟨e2, h2, i2⟩, ⟨e3, h3, i3⟩, _⟩ := hE
 unfold NqG.atoi
 match ha : Lib.atoiAll s with
 | Lib.NumEnd.ok v =>
  refine ⟨(Tryz.strconv_Atoi_ok ⟨s.toArray⟩ (by omega) v ha w).mono fun e w' ⟨he, hw⟩ => ⟨⟨_, he, .inl ⟨rfl, rfl⟩⟩, ?_⟩, parseUint_lt s v ha⟩
  rcases hw with rfl | ⟨t, rfl⟩
  ·exact Below.refl _ _
  ·exact Joins.below_bytesWorld _ _ _ _ (Nat.le_refl _)
 | Lib.NumEnd.syntax =>
  refine ⟨(Tryz.strconv_Atoi_syntax ⟨s.toArray⟩ (by omega) ha e2 w h2 i2).mono fun e w' ⟨N, he, _, _, hb⟩ => ⟨⟨_, he, .inr ⟨rfl, _, _, rfl⟩⟩, hb⟩, (show (-9223372036854775808 : Int) ≤ 0 by decide), (show (0 : Int) ≤ 9223372036854775807 by decide)⟩
 | Lib.NumEnd.range =>
  refine ⟨(Tryz.strconv_Atoi_range ⟨s.toArray⟩ (by omega) ha e3 w h3 i3).mono fun e w' ⟨N, he, _, _, hb⟩ => ⟨⟨_, he, .inr ⟨rfl, _, _, rfl⟩⟩, hb⟩, ?_⟩
  simp only
  unfold Lib.atoiSat
  split <;> omega
theorem ok_atoi : Lk.FnOk (τ := ax) (Kw := kw) Tryz.prog 56 ⟨[(.s, .r)], [(.i .i64, .r), (.e, .r)], 2⟩ (fun x => bif Nat.ble x.1.length 2147483648 then some ((NqG.atoi x.1).1, (NqG.atoi x.1).2, ()) else none) := by
 rintro ⟨s, _⟩ res hx w S Sb ads hK hs ha hargs
 obtain ⟨sh, ads', rfl, ha1⟩ := ads_cons ha
 obtain rfl := ads_nil ha1
 have hx : (bif Nat.ble (s : List UInt8).length 2147483648 then some ((NqG.atoi s).1, (NqG.atoi s).2, ()) else none) = some res := hx
 cases hb : Nat.ble (s : List UInt8).length 2147483648 with
 | false => rw [hb] at hx; cases hx
 | true =>
  rw [hb] at hx
  cases hx
  rw [Nat.ble_eq] at hb
  obtain ⟨hc, hr1, hr2⟩ := atoi_call s hb w hK
  refine (show Calls Tryz.prog 56 #[.string ⟨(s : List UInt8).toArray⟩] w _ from ?_)
  refine hc.mono fun e w' ⟨⟨ev, he, hev⟩, hw⟩ => ⟨_, he, ext_of_below hw, ?_⟩
  refine res_flat [⟨.i .i64, .r, (NqG.atoi s).1, ()⟩, ⟨.e, .r, (NqG.atoi s).2, ev⟩] rfl (fun b hb => hs b (.inl hb)) hw.size ?_ (by simp [Lk.blsOf, Lk.DV.bl, Lk.bl]) rfl rfl rfl
  intro d hd
  simp only [List.mem_cons, List.not_mem_nil, or_false] at hd
  rcases hd with rfl | rfl
  ·exact ⟨rfl, inR64 hr1 hr2⟩
  ·refine ⟨ev, rfl, ?_⟩
   rcases hev with ⟨h1, h2⟩ | ⟨h1, t, u, h2⟩
   ·exact .inl ⟨h1, h2⟩
   ·exact .inr ⟨h1, t, u, h2, trivial⟩
theorem res_row {w w' : World} {S : Nat → Prop} {Sb : Nat → Prop} {B : List Nat} {ads : List Lk.DV} (x : List (List UInt8)) {v : Value} (hb : Below w.heap.size w w') (hS : ∀ b, S b ∨ Sb b → b < w.heap.size) (hr : w'.ownsRow w.heap.size 9 1 v x.length (x.map Lk.strV)) (hx : ∀ y ∈ x, y.length ≤ Lk.big) (hl : x.length ≤ Lk.big)
  (ha : (ads.filter fun d => Lk.isO d.m) = []) : Lk.ResAre (τ := ax) w w' S B [⟨.l .s, .o .r, x⟩] 1 ads v := by
 have flat : ∀ (es : List Unit), (List.zipWith (fun y z => Lk.bl .s .r y z) x es).flatten = [] := fun es => by
  rw [List.flatten_eq_nil_iff]
  intro l hl
  obtain ⟨i, hi⟩ := List.getElem?_of_mem hl
  rw [List.getElem?_zipWith] at hi
  split at hi <;> cases hi
  rfl
 rcases hr.2 with ⟨rfl, hn⟩ | ⟨g, cap, cur, rfl, h1, h2, h3, h4, h5, h6⟩
 ·obtain rfl : x = [] := List.length_eq_zero_iff.1 hn
  let d : Lk.DV := ⟨.l .s, .o .r, [], ⟨.slice none 0 0, 0, 0, [], 9, (0, 0), []⟩⟩
  have hbl : Lk.blsOf [d] = [] := by simp [Lk.blsOf, Lk.DV.bl, Lk.bl, d]
  refine ⟨⟨[d], S, rfl, fun _ h => h, fun _ h => .inl h, fun b hb' => Nat.lt_of_lt_of_le (hS b (.inl hb')) hb.size, ?_, by rw [hbl]; simp, by rw [hbl]; simp, rfl, by rw [ha]; rfl⟩⟩
  intro y hy
  obtain rfl := List.mem_singleton.1 hy
  exact .inl ⟨rfl, rfl⟩
 ·let d : Lk.DV := ⟨.l .s, .o .r, x, ⟨.slice (some ⟨g, 0, none⟩) x.length cap, g, 0, cur.toList, 9, (0, 0), x.map fun _ => ()⟩⟩
  have hbl : Lk.blsOf [d] = [g] := by
   rw [Lk.blsOf_cons]
   show (g :: (List.zipWith (fun y z => Lk.bl .s .r y z) x (x.map fun _ => ())).flatten) ++ [] = _
   rw [List.append_nil, flat]
  have hglt : g < w'.heap.size := by
   rcases Nat.lt_or_ge g w'.heap.size with h | h
   ·exact h
   ·rw [Array.getElem?_eq_none h] at h2; cases h2
  refine ⟨⟨[d], S, rfl, fun _ h => h, fun _ h => .inl h, fun b hb' => Nat.lt_of_lt_of_le (hS b (.inl hb')) hb.size, ?_, by rw [hbl]; simp, ?_, rfl, by rw [ha]; rfl⟩⟩
  ·intro y hy
   obtain rfl := List.mem_singleton.1 hy
   have hcur : cur.toList.length = cap := by rw [Array.length_toList, h5]; omega
   refine .inr ⟨cap, rfl, by simp [d], h3, h4, by simp [d, Lk.csz, h5], by simp only [d, Array.toArray_toList]; exact h2, fun k _ => by simp [d], fun i u z hu hz => ?_⟩
   refine ⟨?_, rfl, hx u (List.mem_of_getElem? hu)⟩
   show Lk.win cur.toList (0 + i * 1) 1 = [Lk.strV u]
   obtain ⟨hi, rfl⟩ := List.getElem?_eq_some_iff.1 hu
   have hi : i < x.length := hi
   have e1 : cur.toList[i]? = some (Lk.strV x[i]) := by
    have e2 : (cur.toList.take (x.length * 1))[i]? = (x.map Lk.strV)[i]? := by rw [h6]
    rw [List.getElem?_take, if_pos (by omega), List.getElem?_map, List.getElem?_eq_getElem hi] at e2
    exact e2
   unfold Lk.win
   rw [Nat.zero_add, Nat.mul_one]
   obtain ⟨hi2, e3⟩ := List.getElem?_eq_some_iff.1 e1
   rw [List.drop_eq_getElem_cons hi2, e3]; rfl
  ·intro b hb'
   rw [hbl, List.mem_singleton] at hb'
   subst hb'
   exact ⟨.inr h1, hglt, fun h => by have := hS _ (.inl h); omega⟩
theorem ok_clone : Lk.FnOk (τ := ax) (Kw := kw) Tryz.prog 80 ⟨[(.l .s, .b)], [(.l .s, .o .r)], 1⟩ (fun x => bif Nat.ble (List.length x.1) 1073741824 then some (x.1, ()) else none) := by
 rintro ⟨x, _⟩ res hx w S Sb ads hK hs ha hargs
 obtain ⟨sh, ads', rfl, ha1⟩ := ads_cons ha
 obtain rfl := ads_nil ha1
 have hx : (bif Nat.ble (List.length x) 1073741824 then some (x, ()) else none) = some res := hx
 cases hb : Nat.ble (List.length x) 1073741824 with
 | false => rw [hb] at hx; cases hx
 | true =>
  rw [hb] at hx
  cases hx
  rw [Nat.ble_eq] at hb
  have hh := hargs.hold _ (List.mem_cons_self ..)
  have hval : Lk.DV.val ax (⟨.l .s, .b, x, sh⟩ : Lk.DV) = sh.hd := rfl
  show Calls Tryz.prog 80 #[Lk.DV.val ax (⟨.l .s, .b, x, sh⟩ : Lk.DV)] w _
  rw [hval]
  obtain ⟨a, cap, h1, h2, h3, h4, h5⟩ := hh
  have h1 : sh.hd = .slice a (List.length x) cap := by
   have : [sh.hd] = [.slice a (List.length x) cap] := h1
   simpa using this
  rw [h1]
  have hbig : Lk.big = 9223372036854775807 := rfl
  rcases h5 with rfl | ⟨b, off, C, ety, frz, rfl, hSb, hc, hall⟩
  ·cases a with
   | none =>
    refine (Tryz.slices_Clone_string_nil 0 cap w).mono fun e w' ⟨he, hw⟩ => ⟨_, he, hw ▸ Lk.Ext.refl w, ?_⟩
    subst hw
    exact res_row [] (Below.refl _ _) hs ⟨rfl, .inl ⟨rfl, rfl⟩⟩ (by simp) (by simp) rfl
   | some a =>
    refine (Tryz.slices_Clone_string_zero a cap w).mono fun e w' ⟨v', he, hr, _, hw⟩ => ⟨_, he, ext_of_below hw, ?_⟩
    exact res_row [] hw hs hr (by simp) (by simp) rfl
  ·have hrd : ∀ y ∈ x, (y : List UInt8).length ≤ Lk.big := fun y hy => by
    obtain ⟨i, hi⟩ := List.getElem?_of_mem hy
    exact (hall i y hi).2
   refine (Tryz.slices_Clone_string b off (List.length x) cap (x.map fun y => ⟨y.toArray⟩) w (by simp) (by omega) (fun j hj => ?_)).mono fun e w' ⟨v', he, hr, _, hw⟩ => ⟨_, he, ext_of_below hw, ?_⟩
   ·rw [List.length_map] at hj
    obtain ⟨q1, _⟩ := hall j _ (List.getElem?_eq_getElem hj)
    have q1 : Lk.win C.toList (off + j * 1) 1 = [Lk.strV x[j]] := q1
    unfold World.cell?
    simp only [hc]
    have q2 : C.toList[off + j]? = some (Lk.strV x[j]) := by
     have : (Lk.win C.toList (off + j * 1) 1)[0]? = some (Lk.strV x[j]) := by rw [q1]; rfl
     unfold Lk.win at this
     rw [List.getElem?_take, if_pos (by omega), List.getElem?_drop, Nat.mul_one, Nat.add_zero] at this
     exact this
    rw [Array.getElem?_toList] at q2
    rw [q2, List.getD_eq_getElem?_getD, List.getElem?_map, List.getElem?_eq_getElem hj]
    rfl
   ·refine res_row x hw hs ?_ hrd (by omega) rfl
    have e1 : ((x.map fun y => (⟨(y : List UInt8).toArray⟩ : ByteArray)).take (List.length x)).map Value.string = x.map Lk.strV := by
     rw [List.take_of_length_le (by simp), List.map_map]; rfl
    rw [e1] at hr
    exact hr
theorem ok_search : Lk.FnOk (τ := ax) (Kw := kw) Tryz.prog 59 ⟨[(.l (.i .i64), .b), (.i .i64, .r)], [(.i .i64, .r), (.b, .r)], 2⟩ (fun x => bif Nat.ble (List.length x.1) 1073741824 && decide ((x.1 : List Int).Pairwise (· ≤ ·)) then some (((x.1 : List Int).countP (fun y => decide (y < x.2.1)) : Int), (x.1 : List Int).contains x.2.1, ()) else none) := by
 rintro ⟨x, n, _⟩ res hx w S Sb ads hK hs ha hargs
 obtain ⟨sh, ads', rfl, ha1⟩ := ads_cons ha
 obtain ⟨sh2, ads2, rfl, ha2⟩ := ads_cons ha1
 obtain rfl := ads_nil ha2
 have hx : (bif Nat.ble (List.length (x : List Int)) 1073741824 && decide ((x : List Int).Pairwise (· ≤ ·)) then some (((x : List Int).countP (fun y => decide (y < n)) : Int), (x : List Int).contains n, ()) else none) = some res := hx
 cases hb : (Nat.ble (List.length (x : List Int)) 1073741824 && decide ((x : List Int).Pairwise (· ≤ ·))) with
 | false => rw [hb] at hx; cases hx
 | true =>
  rw [hb] at hx
  cases hx
  rw [Bool.and_eq_true, Nat.ble_eq, decide_eq_true_eq] at hb
  obtain ⟨hb, hsort⟩ := hb
  have hh := hargs.hold _ (List.mem_cons_self ..)
  have hval : Lk.DV.val ax (⟨.l (.i .i64), .b, x, sh⟩ : Lk.DV) = sh.hd := rfl
  show Calls Tryz.prog 59 #[Lk.DV.val ax (⟨.l (.i .i64), .b, x, sh⟩ : Lk.DV), .int .i64 n] w _
  rw [hval]
  obtain ⟨a, cap, h1, h2, h3, h4, h5⟩ := hh
  have h1 : sh.hd = .slice a (List.length (x : List Int)) cap := by
   have : [sh.hd] = [.slice a (List.length (x : List Int)) cap] := h1
   simpa using this
  rw [h1]
  have fin : ∀ (k : Int) (b : Bool) (w' : World), Lk.inR .i64 k → w.heap.size ≤ w'.heap.size → Lk.ResAre (τ := ax) w w' S (Lk.blsOf [(⟨.l (.i .i64), .b, x, sh⟩ : Lk.DV), ⟨.i .i64, .r, n, sh2⟩]) [⟨.i .i64, .r, k⟩, ⟨.b, .r, b⟩] 2 [(⟨.l (.i .i64), .b, x, sh⟩ : Lk.DV), ⟨.i .i64, .r, n, sh2⟩] (.tuple #[.int .i64 k, .bool b]) := by
   intro k b w' hk hsz
   refine res_flat [⟨.i .i64, .r, k, ()⟩, ⟨.b, .r, b, ()⟩] rfl (fun b hb => hs b (.inl hb)) hsz ?_ (by simp [Lk.blsOf, Lk.DV.bl, Lk.bl]) rfl rfl rfl
   intro d hd
   simp only [List.mem_cons, List.not_mem_nil, or_false] at hd
   rcases hd with rfl | rfl
   ·exact ⟨rfl, hk⟩
   ·exact rfl
  rcases h5 with rfl | ⟨b, off, C, ety, frz, rfl, hSb, hc, hall⟩
  ·refine (Tryz.slices_BinarySearch_int_empty a cap n w).mono fun e w' ⟨he, hw⟩ => ?_
   subst hw
   exact ⟨_, he, Lk.Ext.refl _, fin 0 false _ (inR64 (by omega) (by omega)) (Nat.le_refl _)⟩
  ·have hcell : ∀ j, j < (x : List Int).length → w.cell? ⟨b, off + j, none⟩ = some (.int .i64 ((x : List Int).getD j 0)) := by
    intro j hj
    obtain ⟨q1, _⟩ := hall j _ (List.getElem?_eq_getElem hj)
    have q1 : Lk.win C.toList (off + j * 1) 1 = [.int .i64 (x : List Int)[j]] := q1
    unfold World.cell?
    simp only [hc]
    have q2 : C.toList[off + j]? = some (.int .i64 (x : List Int)[j]) := by
     have : (Lk.win C.toList (off + j * 1) 1)[0]? = some (.int .i64 (x : List Int)[j]) := by rw [q1]; rfl
     unfold Lk.win at this
     rw [List.getElem?_take, if_pos (by omega), List.getElem?_drop, Nat.mul_one, Nat.add_zero] at this
     exact this
    rw [Array.getElem?_toList] at q2
    rw [q2, List.getD_eq_getElem?_getD, List.getElem?_eq_getElem hj]
    rfl
   have htk : (x : List Int).take (List.length (x : List Int)) = x := List.take_of_length_le (Nat.le_refl _)
   refine (Tryz.slices_BinarySearch_int b off (List.length (x : List Int)) cap x n w (Nat.le_refl _) (by omega) hcell (by rw [htk]; exact hsort)).mono fun e w' ⟨he, q, hw⟩ => ?_
   rw [htk] at he
   subst hw
   refine ⟨_, he, ⟨rfl, rfl, rfl, Nat.le_refl _, fun _ _ _ => rfl⟩, fin _ _ _ (inR64 (by omega) ?_) (Nat.le_refl _)⟩
   have := List.countP_le_length (p := fun y => decide (y < n)) (l := (x : List Int))
   omega
theorem ok_numbers : Lk.FnOk (τ := ax) (Kw := kw) Tryz.prog 23 ⟨[(Lv.LvT, .b)], [(.l (.i .i64), .o .r)], 1⟩ (fun x => bif Lv.smallN x.1 then some (LvS1.numsM x.1, ()) else none) := by
 rintro ⟨x, _⟩ res hx w S Sb ads hK hs ha hargs
 obtain ⟨sh, ads', rfl, ha1⟩ := ads_cons ha
 obtain rfl := ads_nil ha1
 have hx : (bif Lv.smallN x then some (LvS1.numsM x, ()) else none) = some res := hx
 cases hb : Lv.smallN x with
 | false => rw [hb] at hx; cases hx
 | true =>
  rw [hb] at hx
  cases hx
  have hh : Lk.Rd ax (fun b => S b ∨ Sb b) w Lv.LvT x [sh.hd] := hargs.hold _ (List.mem_cons_self ..)
  refine (show Calls Tryz.prog 23 #[sh.hd] w _ from ?_)
  refine (Lv.numbers_any w x sh.hd hh hs hb).mono fun e w' ⟨v', he, hN⟩ => ⟨v', he, ?_, Lv.res_new hN hs rfl⟩
  have := hN.ext
  exact ⟨this.os, this.tape, this.output, this.size, fun b hb' _ => this.block b hb' (by simp)⟩
end Go.Proofs.YtligonpmifolfaaGreatDoor
end
section
namespace Go.Proofs.YtligonpmifolfaaGreatDoor.LvGP
open Go.ChangeShapes Go.WideShapes Go.ChangeAt Go.RowKit
theorem env : Lk.EnvOk ax Tryz.prog LvG.G.toEnv := Lk.env_ok (tys := LvG.tys) (lims := LvG.lims) (cmps := [57]) (fun _ => rfl) (fun _ => rfl) (fun _ => rfl) (by kernel_rfl) (by kernel_rfl)
theorem names : (LvG.bodies.toList ++ LvG.exts.toList).all (fun p => Lk.nameB p.2) = true := by kernel_rfl
theorem nrs : LvG.bodies.toList.all (Lk.nrB LvG.sigs) = true := by kernel_rfl
theorem funcs : ∀ p ∈ LvG.bodies.toList ++ LvG.exts.toList, Tryz.prog.funcs[p.1]? = some p.2 := by
 intro p hp
 have e : LvG.bodies.toList ++ LvG.exts.toList = [(3, Tryz.f3), (4, Tryz.f4), (5, Tryz.f5), (6, Tryz.f6), (8, Tryz.f8), (9, Tryz.f9), (10, Tryz.f10), (11, Tryz.f11), (12, Tryz.f12), (13, Tryz.f13), (15, Tryz.f15), (21, Tryz.f21), (24, Tryz.f24), (25, Tryz.f25), (26, Tryz.f26), (28, Tryz.f28), (30, Tryz.f30), (32, Tryz.f32), (34, Tryz.f34), (35, Tryz.f35), (36, Tryz.f36), (37, Tryz.f37), (39, Tryz.f39), (40, Tryz.f40), (41, Tryz.f41), (42, Tryz.f42), (43, Tryz.f43), (44, Tryz.f44), (45, Tryz.f45), (46, Tryz.f46), (47, Tryz.f47), (53, Tryz.f53), (54, Tryz.f54), (55, Tryz.f55), (57, Tryz.f57), (58, Tryz.f58), (60, Tryz.f60), (61, Tryz.f61), (62, Tryz.f62), (64, Tryz.f64), (65, Tryz.f65), (67, Tryz.f67), (68, Tryz.f68), (69, Tryz.f69), (70, Tryz.f70), (71, Tryz.f71), (72, Tryz.f72), (75, Tryz.f75), (76, Tryz.f76), (79, Tryz.f79), (81, Tryz.f81), (82, Tryz.f82), (83, Tryz.f83), (84, Tryz.f84), (85, Tryz.f85), (86, Tryz.f86), (89, Tryz.f89), (90, Tryz.f90), (91, Tryz.f91), (102, Tryz.f102), (103, Tryz.f103), (111, Tryz.f111), (112, Tryz.f112), (113, Tryz.f113), (114, Tryz.f114), (115, Tryz.f115), (126, Tryz.f126), (131, Tryz.f131), (132, Tryz.f132), (133, Tryz.f133), (142, Tryz.f142), (149, Tryz.f149), (7, Tryz.f7), (14, Tryz.f14), (16, Tryz.f16), (17, Tryz.f17), (18, Tryz.f18), (19, Tryz.f19), (20, Tryz.f20), (22, Tryz.f22), (23, Tryz.f23), (27, Tryz.f27), (29, Tryz.f29), (33, Tryz.f33), (38, Tryz.f38), (49, Tryz.f49), (56, Tryz.f56), (59, Tryz.f59), (80, Tryz.f80), (109, Tryz.f109), (110, Tryz.f110)] := by kernel_rfl
 rw [e] at hp
 simp only [List.mem_cons, List.not_mem_nil, or_false] at hp
 rcases hp with rfl | rfl | rfl | rfl | rfl | rfl | rfl | rfl | rfl | rfl | rfl | rfl | rfl | rfl | rfl | rfl | rfl | rfl | rfl | rfl | rfl | rfl | rfl | rfl | rfl | rfl | rfl | rfl | rfl | rfl | rfl | rfl | rfl | rfl | rfl | rfl | rfl | rfl | rfl | rfl | rfl | rfl | rfl | rfl | rfl | rfl | rfl | rfl | rfl | rfl | rfl | rfl | rfl | rfl | rfl | rfl | rfl | rfl | rfl | rfl | rfl | rfl | rfl | rfl | rfl | rfl | rfl | rfl | rfl | rfl | rfl | rfl | rfl | rfl | rfl | rfl | rfl | rfl | rfl | rfl | rfl | rfl | rfl | rfl | rfl | rfl | rfl | rfl | rfl | rfl | rfl
 ·exact Tryz.func3
 ·exact Tryz.func4
 ·exact Tryz.func5
 ·exact Tryz.func6
 ·exact Tryz.func8
 ·exact Tryz.func9
 ·exact Tryz.func10
 ·exact Tryz.func11
 ·exact Tryz.func12
 ·exact Tryz.func13
 ·exact Tryz.func15
 ·exact Tryz.func21
 ·exact Tryz.func24
 ·exact Tryz.func25
 ·exact Tryz.func26
 ·exact Tryz.func28
 ·exact Tryz.func30
 ·exact Tryz.func32
 ·exact Tryz.func34
 ·exact Tryz.func35
 ·exact Tryz.func36
 ·exact Tryz.func37
 ·exact Tryz.func39
 ·exact Tryz.func40
 ·exact Tryz.func41
 ·exact Tryz.func42
 ·exact Tryz.func43
 ·exact Tryz.func44
 ·exact Tryz.func45
 ·exact Tryz.func46
 ·exact Tryz.func47
 ·exact Tryz.func53
 ·exact Tryz.func54
 ·exact Tryz.func55
 ·exact Tryz.func57
 ·exact Tryz.func58
 ·exact Tryz.func60
 ·exact Tryz.func61
 ·exact Tryz.func62
 ·exact Tryz.func64
 ·exact Tryz.func65
 ·exact Tryz.func67
 ·exact Tryz.func68
 ·exact Tryz.func69
 ·exact Tryz.func70
 ·exact Tryz.func71
 ·exact Tryz.func72
 ·exact Tryz.func75
 ·exact Tryz.func76
 ·exact Tryz.func79
 ·exact Tryz.func81
 ·exact Tryz.func82
 ·exact Tryz.func83
 ·exact Tryz.func84
 ·exact Tryz.func85
 ·exact Tryz.func86
 ·exact Tryz.func89
 ·exact Tryz.func90
 ·exact Tryz.func91
 ·exact Tryz.func102
 ·exact Tryz.func103
 ·exact Tryz.func111
 ·exact Tryz.func112
 ·exact Tryz.func113
 ·exact Tryz.func114
 ·exact Tryz.func115
 ·exact Tryz.func126
 ·exact Tryz.func131
 ·exact Tryz.func132
 ·exact Tryz.func133
 ·exact Tryz.func142
 ·exact Tryz.func149
 ·exact Tryz.func7
 ·exact Tryz.func14
 ·exact Tryz.func16
 ·exact Tryz.func17
 ·exact Tryz.func18
 ·exact Tryz.func19
 ·exact Tryz.func20
 ·exact Tryz.func22
 ·exact Tryz.func23
 ·exact Tryz.func27
 ·exact Tryz.func29
 ·exact Tryz.func33
 ·exact Tryz.func38
 ·exact Tryz.func49
 ·exact Tryz.func56
 ·exact Tryz.func59
 ·exact Tryz.func80
 ·exact Tryz.func109
 ·exact Tryz.func110
theorem exts : ∀ g F n, LvG.G.ext g = some F → Lk.FnOk (τ := ax) (Kw := kw) Tryz.prog g (LvG.G.sig g) (F n) := by
 intro g F n h
 show Lk.FnOk (τ := ax) (Kw := kw) Tryz.prog g ((LvG.sigs.get g).getD ⟨[], [], 0⟩) (F n)
 change LvG.ext g = some F at h
 unfold LvG.ext at h
 split at h
 ·cases h; exact Lv.ok_new
 ·cases h; exact Lv.ok_valid
 ·cases h; exact Lv.ok_current
 ·cases h; exact Lv.ok_refs
 ·cases h; exact Lv.ok_drop
 ·cases h; exact Lv.ok_end
 ·cases h; exact Lv.ok_len
 ·cases h; exact Lv.ok_tables
 ·cases h; exact ok_numbers
 ·cases h; exact Lv.ok_hold
 ·cases h; exact Lv.ok_levels
 ·cases h; exact Lv.ok_install
 ·cases h; exact Lv.ok_begin
 ·cases h; exact Lv.ok_none
 ·cases h; exact ok_atoi
 ·cases h; exact ok_search
 ·cases h; exact ok_clone
 ·cases h; exact ok_itoa
 ·cases h; exact ok_repeat
 ·cases h
theorem extb : ∀ g F, LvG.G.ext g = some F → (LvG.exts.get g).isSome = true := by
 intro g F h
 change LvG.ext g = some F at h
 unfold LvG.ext at h
 split at h
 ·rfl
 ·rfl
 ·rfl
 ·rfl
 ·rfl
 ·rfl
 ·rfl
 ·rfl
 ·rfl
 ·rfl
 ·rfl
 ·rfl
 ·rfl
 ·rfl
 ·rfl
 ·rfl
 ·rfl
 ·rfl
 ·rfl
 ·cases h
theorem prg : Lk.PrgOk kw ax Tryz.prog LvG.G :=
 Lk.prg_ok (bodies := LvG.bodies) (exts := LvG.exts) env (by kernel_rfl) (fun w w' B h hB _ hx => tabs_keep w w' B h hB hx) (fun _ => rfl) extb exts funcs names (by kernel_rfl)
theorem res : ∀ g fn, LvG.G.body g = some fn → fn.results.size ≤ 5 ∧ (LvG.G.sig g).nr = fn.results.size := Lk.res_le (bodies := LvG.bodies) (exts := LvG.exts) (sigs := LvG.sigs) (fun _ => rfl) (fun _ => rfl) names nrs
end Go.Proofs.YtligonpmifolfaaGreatDoor.LvGP
end
