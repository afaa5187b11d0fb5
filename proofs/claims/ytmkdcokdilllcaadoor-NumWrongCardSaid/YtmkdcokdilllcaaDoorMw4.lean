import Derived.Shelf.Strings.Builder1
import Derived.Shelf.Strings.Builder2
import Derived.Shelf.Strings.Trim
import Derived.Shelf.Small.Utf8
import Derived.Shelf.Small.Bits
import Derived.Shelf.Small.Strs
import Derived.Shelf.Small.Wraps
import Derived.Shelf.Strings.BuilderF
import Derived.Shelf.Strings.BuilderK
import Derived.Shelf.Strconv.Atoi
import Derived.Shelf.Strconv.Itoa0
import Derived.Shelf.Strconv.Itoa1
import Derived.Shelf.LaysM
import Derived.Shelf.Strconv.Itoa2
import Derived.Shelf.Strconv.Itoa3
import Derived.Shelf.Strings.Search1
import Derived.Shelf.Strings.Prefix
import Derived.Shelf.Strings.Runes
import Derived.Shelf.Strings.AsciiSet
import Derived.Shelf.Bits.Mul64
import Derived.Shelf.Strings.Repeat
import Derived.Shelf.Unicode.DecodeSlow
import Derived.Test.YtmkdcokdilllcaaDoorProg
import Derived.Test.YtmkdcokdilllcaaDoorMw2
import Derived.Test.YtmkdcokdilllcaaDoorMw3
import Derived.Defers
import Derived.Recover
import Derived.Lib.ItoaNum
import Derived.Lib.Repeat
/-
  DERIVED: THE SHELF's CONTRACTS AT THIS DUMP, IN PLAIN WORDS (tools/lay-plain.mjs out of 'TrydShelf.lean', which tools/lay-shelf.mjs wrote): THE SAME DECLARATIONS UNDER THE SAME NAMES: 'import', 'namespace', 'open', 'def', 'theorem' AND NOTHING ELSE: no command of the shelf's: FOR A HAND-IN. Each laying: the table of numbers ('.._ren') and one theorem, a field a fact of the dump's own or the kernel's comparison; each contract: ONE APPLICATION.
-/
namespace Go.Proofs
open Go.Shelf
def Tryd.lays169_ren : Go.Shelf.Ren := ⟨fun | 169 => 57 | n => n, fun | 70 => 78 | 9 => 9 | 0 => 0 | 72 => 80 | 37 => 77 | 127 => 102 | 3 => 3 | 5 => 5 | n => n, fun | n => n⟩
theorem Tryd.lays169 : Go.Proofs.Lays.n169 Tryd.prog Tryd.lays169_ren := {
  mixed := by kernel_rfl
  f169 := Tryd.func57.trans (congrArg some (by kernel_rfl))
  t0 := Tryd.underlying0
  a0 := Tryd.isAgg0
  z0 := Tryd.sizeOf0
  v0 := Tryd.zeroValue0
  t3 := Tryd.underlying3
  a3 := Tryd.isAgg3
  z3 := Tryd.sizeOf3
  v3 := Tryd.zeroValue3
  t9 := Tryd.underlying9
  a9 := Tryd.isAgg9
  z9 := Tryd.sizeOf9
  v9 := Tryd.zeroValue9
  t37 := Tryd.underlying77
  a37 := Tryd.isAgg77
  z37 := Tryd.sizeOf77
  v37 := Tryd.zeroValue77
  t70 := Tryd.underlying78
  a70 := Tryd.isAgg78
  z70 := Tryd.sizeOf78
  v70 := Tryd.zeroValue78
  t72 := Tryd.underlying80
  a72 := Tryd.isAgg80
  z72 := Tryd.sizeOf80
  v72 := Tryd.zeroValue80
  t127 := Tryd.underlying102
  a127 := Tryd.isAgg102
  z127 := Tryd.sizeOf102
  v127 := Tryd.zeroValue102 }
theorem Tryd.Builder_Extra_169 : Builder.Extra Tryd.prog Tryd.lays169_ren := {
  sizeBuilder := by kernel_rfl
  liesBuilder := by kernel_rfl
  t5 := Tryd.underlying5
  a5 := Tryd.isAgg5
  z5 := Tryd.sizeOf5
  v5 := Tryd.zeroValue5
  infoByte := by kernel_rfl
  cellsByte := by kernel_rfl
  sizeByte := by kernel_rfl
  neB5 := by decide }
open Go.RowKit in
/-- (*strings.Builder).String: "String returns the accumulated string.": WHATEVER THE BUILDER HOLDS. (LAID: no walk: one application.) -/
theorem Tryd.Builder_String_any (B b : Nat) (l : List UInt8) (w : World) (h : Lib.IsBuilder 80 5 B b (Lib.byteCells l) w) (hBw : B ≤ w.heap.size) :
    Calls Tryd.prog 57 #[.pointer (some ⟨b, 0, none⟩)] w fun e w' => e = .returned (.string ⟨l.toArray⟩) ∧ Below B w w' := Any.Builder_String_any Tryd.lays169 Tryd.Builder_Extra_169 B b l w h hBw
def Tryd.lays161_ren : Go.Shelf.Ren := ⟨fun | 161 => 56 | 231 => 71 | 227 => 72 | 233 => 73 | 235 => 74 | 228 => 86 | 197 => 87 | 151 => 88 | 260 => 98 | 152 => 99 | 137 => 66 | 119 => 107 | 224 => 108 | 225 => 109 | 217 => 81 | 266 => 92 | n => n, fun | 9 => 9 | 4 => 4 | 3 => 3 | 5 => 5 | 117 => 98 | 116 => 97 | 0 => 0 | 124 => 101 | 105 => 111 | 21 => 21 | 119 => 134 | 46 => 48 | 139 => 137 | 138 => 136 | n => n, fun | 3 => 3 | 4 => 4 | n => n⟩
theorem Tryd.lays161 : Go.Proofs.Lays.n161 Tryd.prog Tryd.lays161_ren := {
  mixed := by kernel_rfl
  f119 := Tryd.func107.trans (congrArg some (by kernel_rfl))
  f137 := Tryd.func66.trans (congrArg some (by kernel_rfl))
  f151 := Tryd.func88.trans (congrArg some (by kernel_rfl))
  f152 := Tryd.func99.trans (congrArg some (by kernel_rfl))
  f161 := Tryd.func56.trans (congrArg some (by kernel_rfl))
  f197 := Tryd.func87.trans (congrArg some (by kernel_rfl))
  f217 := Tryd.func81.trans (congrArg some (by kernel_rfl))
  f224 := Tryd.func108.trans (congrArg some (by kernel_rfl))
  f225 := Tryd.func109.trans (congrArg some (by kernel_rfl))
  f227 := Tryd.func72.trans (congrArg some (by kernel_rfl))
  f228 := Tryd.func86.trans (congrArg some (by kernel_rfl))
  f231 := Tryd.func71.trans (congrArg some (by kernel_rfl))
  f233 := Tryd.func73.trans (congrArg some (by kernel_rfl))
  f235 := Tryd.func74.trans (congrArg some (by kernel_rfl))
  f260 := Tryd.func98.trans (congrArg some (by kernel_rfl))
  f266 := Tryd.func92.trans (congrArg some (by kernel_rfl))
  t0 := Tryd.underlying0
  a0 := Tryd.isAgg0
  z0 := Tryd.sizeOf0
  v0 := Tryd.zeroValue0
  t3 := Tryd.underlying3
  a3 := Tryd.isAgg3
  z3 := Tryd.sizeOf3
  v3 := Tryd.zeroValue3
  t4 := Tryd.underlying4
  a4 := Tryd.isAgg4
  z4 := Tryd.sizeOf4
  v4 := Tryd.zeroValue4
  t5 := Tryd.underlying5
  a5 := Tryd.isAgg5
  z5 := Tryd.sizeOf5
  v5 := Tryd.zeroValue5
  t9 := Tryd.underlying9
  a9 := Tryd.isAgg9
  z9 := Tryd.sizeOf9
  v9 := Tryd.zeroValue9
  t21 := Tryd.underlying21
  a21 := Tryd.isAgg21
  z21 := Tryd.sizeOf21
  v21 := Tryd.zeroValue21
  t46 := Tryd.underlying48
  a46 := Tryd.isAgg48
  z46 := Tryd.sizeOf48
  v46 := Tryd.zeroValue48
  t105 := Tryd.underlying111
  a105 := Tryd.isAgg111
  z105 := Tryd.sizeOf111
  v105 := Tryd.zeroValue111
  t116 := Tryd.underlying97
  a116 := Tryd.isAgg97
  z116 := Tryd.sizeOf97
  t117 := Tryd.underlying98
  a117 := Tryd.isAgg98
  z117 := Tryd.sizeOf98
  v117 := Tryd.zeroValue98
  t119 := Tryd.underlying134
  a119 := Tryd.isAgg134
  z119 := Tryd.sizeOf134
  t124 := Tryd.underlying101
  a124 := Tryd.isAgg101
  z124 := Tryd.sizeOf101
  v124 := Tryd.zeroValue101
  t138 := Tryd.underlying136
  a138 := Tryd.isAgg136
  z138 := Tryd.sizeOf136
  v138 := Tryd.zeroValue136
  t139 := Tryd.underlying137
  a139 := Tryd.isAgg137
  z139 := Tryd.sizeOf137
  v139 := Tryd.zeroValue137
  g3 := by kernel_rfl
  g4 := by kernel_rfl }
open Go.RowKit in
/-- strings.TrimLeft: "TrimLeft returns a slice of the string s with all leading Unicode code points contained in cutset removed.": AT A cutset OF ONE ASCII BYTE. The world is as it was. (LAID: no walk: one application.) -/
theorem Tryd.strings_TrimLeft_one (s : ByteArray) (c : UInt8) (hc : c.toNat < 128) (w : World) :
    Calls Tryd.prog 56 #[.string s, .string ⟨#[c]⟩] w fun e w' => e = .returned (.string ⟨(Lib.trimLeftB s.data.toList c).toArray⟩) ∧ w' = w := Any.strings_TrimLeft_one Tryd.lays161 s c hc w
def Tryd.lays137_ren : Go.Shelf.Ren := ⟨fun | 137 => 66 | 217 => 81 | 266 => 92 | n => n, fun | 9 => 9 | 5 => 5 | 3 => 3 | n => n, fun | n => n⟩
theorem Tryd.lays137 : Go.Proofs.Lays.n137 Tryd.prog Tryd.lays137_ren := {
  mixed := by kernel_rfl
  f137 := Tryd.func66.trans (congrArg some (by kernel_rfl))
  f217 := Tryd.func81.trans (congrArg some (by kernel_rfl))
  f266 := Tryd.func92.trans (congrArg some (by kernel_rfl))
  t3 := Tryd.underlying3
  a3 := Tryd.isAgg3
  z3 := Tryd.sizeOf3
  v3 := Tryd.zeroValue3
  t5 := Tryd.underlying5
  a5 := Tryd.isAgg5
  z5 := Tryd.sizeOf5
  v5 := Tryd.zeroValue5
  t9 := Tryd.underlying9
  a9 := Tryd.isAgg9
  z9 := Tryd.sizeOf9
  v9 := Tryd.zeroValue9 }
open Go.RowKit in
/-- strings.IndexByte: "IndexByte returns the index of the first instance of c in s, or -1 if c is not present in s.": IT RETURNS 'Lib.indexByte s c'; the world is as it was. (LAID: no walk: one application.) -/
theorem Tryd.strings_IndexByte (s : ByteArray) (c : Int) (w : World) :
    Calls Tryd.prog 66 #[.string s, .int .u8 c] w fun e w' => e = .returned (.int .i64 (Lib.indexByte s.data.toList c.toNat.toUInt8)) ∧ w' = w := Any.strings_IndexByte Tryd.lays137 s c w
def Tryd.lays172_ren : Go.Shelf.Ren := ⟨fun | 172 => 67 | 244 => 82 | 245 => 83 | 247 => 93 | 279 => 94 | 280 => 95 | 281 => 96 | 282 => 97 | 287 => 104 | 316 => 105 | 171 => 62 | 205 => 106 | 321 => 115 | 322 => 116 | 243 => 79 | 246 => 90 | 283 => 100 | 284 => 101 | 285 => 102 | 286 => 103 | 129 => 111 | 317 => 110 | 318 => 112 | 319 => 113 | 320 => 114 | 337 => 117 | 338 => 118 | n => n, fun | 9 => 9 | 3 => 3 | 75 => 82 | 76 => 83 | 4 => 4 | 5 => 5 | 167 => 116 | 37 => 77 | 0 => 0 | 85 => 117 | 2 => 2 | 168 => 119 | 53 => 47 | 175 => 128 | 46 => 48 | 210 => 132 | 127 => 102 | 145 => 147 | 143 => 145 | 21 => 21 | 171 => 123 | 173 => 126 | 212 => 141 | 51 => 40 | 20 => 20 | 213 => 142 | 232 => 148 | 233 => 149 | 80 => 73 | n => n, fun | 15 => 1 | 16 => 2 | 17 => 5 | 18 => 6 | 19 => 7 | n => n⟩
theorem Tryd.lays172 : Go.Proofs.Lays.n172 Tryd.prog Tryd.lays172_ren := {
  mixed := by kernel_rfl
  f129 := Tryd.func111.trans (congrArg some (by kernel_rfl))
  f171 := Tryd.func62.trans (congrArg some (by kernel_rfl))
  f172 := Tryd.func67.trans (congrArg some (by kernel_rfl))
  f205 := Tryd.func106.trans (congrArg some (by kernel_rfl))
  f243 := Tryd.func79.trans (congrArg some (by kernel_rfl))
  f244 := Tryd.func82.trans (congrArg some (by kernel_rfl))
  f245 := Tryd.func83.trans (congrArg some (by kernel_rfl))
  f246 := Tryd.func90.trans (congrArg some (by kernel_rfl))
  f247 := Tryd.func93.trans (congrArg some (by kernel_rfl))
  f279 := Tryd.func94.trans (congrArg some (by kernel_rfl))
  f280 := Tryd.func95.trans (congrArg some (by kernel_rfl))
  f281 := Tryd.func96.trans (congrArg some (by kernel_rfl))
  f282 := Tryd.func97.trans (congrArg some (by kernel_rfl))
  f283 := Tryd.func100.trans (congrArg some (by kernel_rfl))
  f284 := Tryd.func101.trans (congrArg some (by kernel_rfl))
  f285 := Tryd.func102.trans (congrArg some (by kernel_rfl))
  f286 := Tryd.func103.trans (congrArg some (by kernel_rfl))
  f287 := Tryd.func104.trans (congrArg some (by kernel_rfl))
  f316 := Tryd.func105.trans (congrArg some (by kernel_rfl))
  f317 := Tryd.func110.trans (congrArg some (by kernel_rfl))
  f318 := Tryd.func112.trans (congrArg some (by kernel_rfl))
  f319 := Tryd.func113.trans (congrArg some (by kernel_rfl))
  f320 := Tryd.func114.trans (congrArg some (by kernel_rfl))
  f321 := Tryd.func115.trans (congrArg some (by kernel_rfl))
  f322 := Tryd.func116.trans (congrArg some (by kernel_rfl))
  f337 := Tryd.func117.trans (congrArg some (by kernel_rfl))
  f338 := Tryd.func118.trans (congrArg some (by kernel_rfl))
  t0 := Tryd.underlying0
  a0 := Tryd.isAgg0
  z0 := Tryd.sizeOf0
  v0 := Tryd.zeroValue0
  t2 := Tryd.underlying2
  a2 := Tryd.isAgg2
  z2 := Tryd.sizeOf2
  v2 := Tryd.zeroValue2
  t3 := Tryd.underlying3
  a3 := Tryd.isAgg3
  z3 := Tryd.sizeOf3
  v3 := Tryd.zeroValue3
  t4 := Tryd.underlying4
  a4 := Tryd.isAgg4
  z4 := Tryd.sizeOf4
  v4 := Tryd.zeroValue4
  t5 := Tryd.underlying5
  a5 := Tryd.isAgg5
  z5 := Tryd.sizeOf5
  v5 := Tryd.zeroValue5
  t9 := Tryd.underlying9
  a9 := Tryd.isAgg9
  z9 := Tryd.sizeOf9
  v9 := Tryd.zeroValue9
  t20 := Tryd.underlying20
  a20 := Tryd.isAgg20
  z20 := Tryd.sizeOf20
  v20 := Tryd.zeroValue20
  t21 := Tryd.underlying21
  a21 := Tryd.isAgg21
  z21 := Tryd.sizeOf21
  v21 := Tryd.zeroValue21
  t37 := Tryd.underlying77
  a37 := Tryd.isAgg77
  z37 := Tryd.sizeOf77
  v37 := Tryd.zeroValue77
  t46 := Tryd.underlying48
  a46 := Tryd.isAgg48
  z46 := Tryd.sizeOf48
  v46 := Tryd.zeroValue48
  t51 := Tryd.underlying40
  a51 := Tryd.isAgg40
  z51 := Tryd.sizeOf40
  v51 := Tryd.zeroValue40
  t53 := Tryd.underlying47
  a53 := Tryd.isAgg47
  z53 := Tryd.sizeOf47
  v53 := Tryd.zeroValue47
  t75 := Tryd.underlying82
  a75 := Tryd.isAgg82
  z75 := Tryd.sizeOf82
  v75 := Tryd.zeroValue82
  t76 := Tryd.underlying83
  a76 := Tryd.isAgg83
  z76 := Tryd.sizeOf83
  v76 := Tryd.zeroValue83
  t85 := Tryd.underlying117
  a85 := Tryd.isAgg117
  z85 := Tryd.sizeOf117
  v85 := Tryd.zeroValue117
  t127 := Tryd.underlying102
  a127 := Tryd.isAgg102
  z127 := Tryd.sizeOf102
  v127 := Tryd.zeroValue102
  t143 := Tryd.underlying145
  a143 := Tryd.isAgg145
  z143 := Tryd.sizeOf145
  v143 := Tryd.zeroValue145
  t145 := Tryd.underlying147
  a145 := Tryd.isAgg147
  z145 := Tryd.sizeOf147
  v145 := Tryd.zeroValue147
  t167 := Tryd.underlying116
  a167 := Tryd.isAgg116
  z167 := Tryd.sizeOf116
  v167 := Tryd.zeroValue116
  t168 := Tryd.underlying119
  a168 := Tryd.isAgg119
  z168 := Tryd.sizeOf119
  v168 := Tryd.zeroValue119
  t171 := Tryd.underlying123
  a171 := Tryd.isAgg123
  z171 := Tryd.sizeOf123
  v171 := Tryd.zeroValue123
  t173 := Tryd.underlying126
  a173 := Tryd.isAgg126
  z173 := Tryd.sizeOf126
  v173 := Tryd.zeroValue126
  t175 := Tryd.underlying128
  a175 := Tryd.isAgg128
  z175 := Tryd.sizeOf128
  v175 := Tryd.zeroValue128
  t210 := Tryd.underlying132
  a210 := Tryd.isAgg132
  z210 := Tryd.sizeOf132
  v210 := Tryd.zeroValue132
  t212 := Tryd.underlying141
  a212 := Tryd.isAgg141
  z212 := Tryd.sizeOf141
  v212 := Tryd.zeroValue141
  t213 := Tryd.underlying142
  a213 := Tryd.isAgg142
  z213 := Tryd.sizeOf142
  t232 := Tryd.underlying148
  a232 := Tryd.isAgg148
  z232 := Tryd.sizeOf148
  v232 := Tryd.zeroValue148
  t233 := Tryd.underlying149
  a233 := Tryd.isAgg149
  z233 := Tryd.sizeOf149
  v233 := Tryd.zeroValue149
  g15 := by kernel_rfl
  g16 := by kernel_rfl
  g17 := by kernel_rfl
  g18 := by kernel_rfl
  g19 := by kernel_rfl }
open Go.RowKit in
/-- strconv.Atoi: "Atoi is equivalent to ParseInt(s, 10, 0), converted to type int.": AT A DECIMAL NUMERAL OF AT MOST 18 BYTES: its value, and a nil error. The world behind the call: the one new row that the library's '[]byte(s)' lays. (LAID: no walk: one application.) -/
theorem Tryd.strconv_Atoi (s : ByteArray) (n : Int) (hl : s.size ≤ 18) (h : Lib.atoi s.data.toList = some n) (w : World) :
    Calls Tryd.prog 67 #[.string s] w fun e w' => e = .returned (.tuple #[.int .i64 n, .nilIface]) ∧ ∃ t, w' = Lib.bytesWorld w 5 t := Any.strconv_Atoi Tryd.lays172 s n hl h w
def Tryd.laysM171_ren : Go.Shelf.Ren := ⟨fun | 171 => 62 | 243 => 79 | 246 => 90 | 283 => 100 | 284 => 101 | 285 => 102 | 286 => 103 | 129 => 111 | 317 => 110 | 318 => 112 | 319 => 113 | 320 => 114 | 337 => 117 | 338 => 118 | n => n, fun | 3 => 3 | 9 => 9 | 2 => 2 | 4 => 4 | 171 => 123 | 0 => 0 | 53 => 47 | 37 => 77 | 5 => 5 | 173 => 126 | 212 => 141 | 51 => 40 | 20 => 20 | 213 => 142 | 46 => 48 | 232 => 148 | 233 => 149 | n => n, fun | 17 => 5 | 18 => 6 | 19 => 7 | n => n⟩
theorem Tryd.laysM171 : Go.Proofs.LaysM.n171 Tryd.prog Tryd.laysM171_ren := {
  mixed := by kernel_rfl
  f129 := Tryd.func111.trans (congrArg some (by kernel_rfl))
  f171 := Tryd.func62.trans (congrArg some (by kernel_rfl))
  f243 := Tryd.func79.trans (congrArg some (by kernel_rfl))
  f246 := Tryd.func90.trans (congrArg some (by kernel_rfl))
  f283 := Tryd.func100.trans (congrArg some (by kernel_rfl))
  f284 := Tryd.func101.trans (congrArg some (by kernel_rfl))
  f285 := Tryd.func102.trans (congrArg some (by kernel_rfl))
  f286 := Tryd.func103.trans (congrArg some (by kernel_rfl))
  f317 := Tryd.func110.trans (congrArg some (by kernel_rfl))
  f318 := Tryd.func112.trans (congrArg some (by kernel_rfl))
  f319 := Tryd.func113.trans (congrArg some (by kernel_rfl))
  f320 := Tryd.func114.trans (congrArg some (by kernel_rfl))
  f337 := Tryd.func117.trans (congrArg some (by kernel_rfl))
  f338 := Tryd.func118.trans (congrArg some (by kernel_rfl))
  t0 := Tryd.underlying0
  a0 := Tryd.isAgg0
  z0 := Tryd.sizeOf0
  v0 := Tryd.zeroValue0
  t2 := Tryd.underlying2
  a2 := Tryd.isAgg2
  z2 := Tryd.sizeOf2
  v2 := Tryd.zeroValue2
  t3 := Tryd.underlying3
  a3 := Tryd.isAgg3
  z3 := Tryd.sizeOf3
  v3 := Tryd.zeroValue3
  t4 := Tryd.underlying4
  a4 := Tryd.isAgg4
  z4 := Tryd.sizeOf4
  v4 := Tryd.zeroValue4
  t5 := Tryd.underlying5
  a5 := Tryd.isAgg5
  z5 := Tryd.sizeOf5
  v5 := Tryd.zeroValue5
  t9 := Tryd.underlying9
  a9 := Tryd.isAgg9
  z9 := Tryd.sizeOf9
  v9 := Tryd.zeroValue9
  t20 := Tryd.underlying20
  a20 := Tryd.isAgg20
  z20 := Tryd.sizeOf20
  v20 := Tryd.zeroValue20
  t37 := Tryd.underlying77
  a37 := Tryd.isAgg77
  z37 := Tryd.sizeOf77
  v37 := Tryd.zeroValue77
  t46 := Tryd.underlying48
  a46 := Tryd.isAgg48
  z46 := Tryd.sizeOf48
  v46 := Tryd.zeroValue48
  t51 := Tryd.underlying40
  a51 := Tryd.isAgg40
  z51 := Tryd.sizeOf40
  v51 := Tryd.zeroValue40
  t53 := Tryd.underlying47
  a53 := Tryd.isAgg47
  z53 := Tryd.sizeOf47
  v53 := Tryd.zeroValue47
  t171 := Tryd.underlying123
  a171 := Tryd.isAgg123
  z171 := Tryd.sizeOf123
  v171 := Tryd.zeroValue123
  t173 := Tryd.underlying126
  a173 := Tryd.isAgg126
  z173 := Tryd.sizeOf126
  v173 := Tryd.zeroValue126
  t212 := Tryd.underlying141
  a212 := Tryd.isAgg141
  z212 := Tryd.sizeOf141
  v212 := Tryd.zeroValue141
  t213 := Tryd.underlying142
  a213 := Tryd.isAgg142
  z213 := Tryd.sizeOf142
  t232 := Tryd.underlying148
  a232 := Tryd.isAgg148
  z232 := Tryd.sizeOf148
  v232 := Tryd.zeroValue148
  t233 := Tryd.underlying149
  a233 := Tryd.isAgg149
  z233 := Tryd.sizeOf149
  v233 := Tryd.zeroValue149
  g17 := by kernel_rfl
  g18 := by kernel_rfl
  g19 := by kernel_rfl
  i0 := by kernel_rfl
  i2 := by kernel_rfl
  i3 := by kernel_rfl
  i4 := by kernel_rfl
  i5 := by kernel_rfl
  i9 := by kernel_rfl
  i20 := by kernel_rfl
  i37 := by kernel_rfl
  i46 := by kernel_rfl
  i51 := by kernel_rfl
  i53 := by kernel_rfl
  i171 := by kernel_rfl
  i173 := by kernel_rfl
  i212 := by kernel_rfl
  i232 := by kernel_rfl
  i233 := by kernel_rfl
  m17 := by kernel_rfl
  m18 := by kernel_rfl
  m19 := by kernel_rfl }
open Go.RowKit Go.Sort Go.Lib in
/-- strconv.Itoa: "Itoa is equivalent to FormatInt(int64(i), 10).": i's DECIMAL NUMERAL ('Lib.itoa': a '-' where i is negative, then the digits), FOR EVERY int. The world behind the call: the world before it, new blocks behind the heap (the library's 'var a [24]byte'), draws. (LAID: no walk: one application.) -/
theorem Tryd.strconv_Itoa (n : Int) (h0 : -9223372036854775808 ≤ n) (h1 : n ≤ 9223372036854775807) (w : World) (htab : Lib.TabIs Tryd.prog w "internal/strconv.uint64pow10" .u64 Lib.pow10Tab) :
    Calls Tryd.prog 62 #[.int .i64 n] w fun e w' => e = .returned (.string ⟨(Lib.itoa n).toArray⟩) ∧ ∃ k os, w' = grow (w.drewN k) os := Any.strconv_Itoa Tryd.laysM171 n h0 h1 w htab
def Tryd.lays105_ren : Go.Shelf.Ren := ⟨fun | 105 => 35 | 212 => 58 | 99 => 59 | 165 => 60 | 166 => 55 | 170 => 61 | 169 => 57 | 263 => 75 | 264 => 76 | 206 => 77 | 240 => 70 | 241 => 78 | 276 => 85 | 277 => 89 | n => n, fun | 9 => 9 | 3 => 3 | 4 => 4 | 20 => 20 | 0 => 0 | 46 => 48 | 109 => 86 | 5 => 5 | 72 => 80 | 76 => 83 | 51 => 40 | 146 => 103 | 53 => 47 | 148 => 105 | 70 => 78 | 37 => 77 | 75 => 82 | 127 => 102 | 164 => 108 | 80 => 73 | n => n, fun | n => n⟩
theorem Tryd.lays105 : Go.Proofs.Lays.n105 Tryd.prog Tryd.lays105_ren := {
  mixed := by kernel_rfl
  f99 := Tryd.func59.trans (congrArg some (by kernel_rfl))
  f105 := Tryd.func35.trans (congrArg some (by kernel_rfl))
  f165 := Tryd.func60.trans (congrArg some (by kernel_rfl))
  f166 := Tryd.func55.trans (congrArg some (by kernel_rfl))
  f169 := Tryd.func57.trans (congrArg some (by kernel_rfl))
  f170 := Tryd.func61.trans (congrArg some (by kernel_rfl))
  f206 := Tryd.func77.trans (congrArg some (by kernel_rfl))
  f212 := Tryd.func58.trans (congrArg some (by kernel_rfl))
  f240 := Tryd.func70.trans (congrArg some (by kernel_rfl))
  f241 := Tryd.func78.trans (congrArg some (by kernel_rfl))
  f263 := Tryd.func75.trans (congrArg some (by kernel_rfl))
  f264 := Tryd.func76.trans (congrArg some (by kernel_rfl))
  f276 := Tryd.func85.trans (congrArg some (by kernel_rfl))
  f277 := Tryd.func89.trans (congrArg some (by kernel_rfl))
  t0 := Tryd.underlying0
  a0 := Tryd.isAgg0
  z0 := Tryd.sizeOf0
  v0 := Tryd.zeroValue0
  t3 := Tryd.underlying3
  a3 := Tryd.isAgg3
  z3 := Tryd.sizeOf3
  v3 := Tryd.zeroValue3
  t4 := Tryd.underlying4
  a4 := Tryd.isAgg4
  z4 := Tryd.sizeOf4
  v4 := Tryd.zeroValue4
  t5 := Tryd.underlying5
  a5 := Tryd.isAgg5
  z5 := Tryd.sizeOf5
  v5 := Tryd.zeroValue5
  t9 := Tryd.underlying9
  a9 := Tryd.isAgg9
  z9 := Tryd.sizeOf9
  v9 := Tryd.zeroValue9
  t20 := Tryd.underlying20
  a20 := Tryd.isAgg20
  z20 := Tryd.sizeOf20
  v20 := Tryd.zeroValue20
  t37 := Tryd.underlying77
  a37 := Tryd.isAgg77
  z37 := Tryd.sizeOf77
  v37 := Tryd.zeroValue77
  t46 := Tryd.underlying48
  a46 := Tryd.isAgg48
  z46 := Tryd.sizeOf48
  v46 := Tryd.zeroValue48
  t51 := Tryd.underlying40
  a51 := Tryd.isAgg40
  z51 := Tryd.sizeOf40
  v51 := Tryd.zeroValue40
  t53 := Tryd.underlying47
  a53 := Tryd.isAgg47
  z53 := Tryd.sizeOf47
  v53 := Tryd.zeroValue47
  t70 := Tryd.underlying78
  a70 := Tryd.isAgg78
  z70 := Tryd.sizeOf78
  v70 := Tryd.zeroValue78
  t72 := Tryd.underlying80
  a72 := Tryd.isAgg80
  z72 := Tryd.sizeOf80
  v72 := Tryd.zeroValue80
  t75 := Tryd.underlying82
  a75 := Tryd.isAgg82
  z75 := Tryd.sizeOf82
  v75 := Tryd.zeroValue82
  t76 := Tryd.underlying83
  a76 := Tryd.isAgg83
  z76 := Tryd.sizeOf83
  v76 := Tryd.zeroValue83
  t109 := Tryd.underlying86
  a109 := Tryd.isAgg86
  z109 := Tryd.sizeOf86
  v109 := Tryd.zeroValue86
  t127 := Tryd.underlying102
  a127 := Tryd.isAgg102
  z127 := Tryd.sizeOf102
  v127 := Tryd.zeroValue102
  t146 := Tryd.underlying103
  a146 := Tryd.isAgg103
  z146 := Tryd.sizeOf103
  v146 := Tryd.zeroValue103
  t148 := Tryd.underlying105
  a148 := Tryd.isAgg105
  z148 := Tryd.sizeOf105
  v148 := Tryd.zeroValue105
  t164 := Tryd.underlying108
  a164 := Tryd.isAgg108
  z164 := Tryd.sizeOf108
  v164 := Tryd.zeroValue108 }
theorem Tryd.Builder_Extra_105 : Builder.Extra Tryd.prog Tryd.lays105_ren := {
  sizeBuilder := by kernel_rfl
  liesBuilder := by kernel_rfl
  t5 := Tryd.underlying5
  a5 := Tryd.isAgg5
  z5 := Tryd.sizeOf5
  v5 := Tryd.zeroValue5
  infoByte := by kernel_rfl
  cellsByte := by kernel_rfl
  sizeByte := by kernel_rfl
  neB5 := by decide }
open Go.RowKit Go.Lib in
/-- **strings.Repeat: count ≥ 0, the result within one allocation: count copies of s.** (LAID: no walk: one application.) -/
theorem Tryd.strings_Repeat (s : ByteArray) (c : Nat) (w : World) (hc : c ≤ 9223372036854775807) (hlen : s.size * c ≤ 140737488355328) :
    Calls Tryd.prog 35 #[.string s, .int .i64 c] w fun e w' => e = .returned (.string ⟨(Lib.repeatL s.data.toList c).toArray⟩) ∧ Below w.heap.size w w' := Any.strings_Repeat Tryd.lays105 Tryd.Builder_Extra_105 s c w hc hlen
end Go.Proofs
/- num's reader: has, digits, exponent. -/
namespace Go.Proofs.YtmkdcokdilllcaaDoor.X
open Go.RowKit Go.Proofs.YtmkdcokdilllcaaDoorW.PrintWords Go.Proofs.YtmkdcokdilllcaaDoorW.PrintLast Go.Proofs.YtmkdcokdilllcaaDoorW.PrintMore
set_option linter.unusedVariables false
set_option linter.unusedSimpArgs false
theorem indexByte_neg (l : List UInt8) (c : UInt8) : Lib.indexByte l c < 0 ↔ c ∉ l := by
  have h0 : ∀ l : List UInt8, -1 ≤ Lib.indexByte l c := by
    intro l
    induction l with
    | nil => simp [Lib.indexByte]
    | cons b l ih =>
      unfold Lib.indexByte
      split
      · omega
      · split
        · omega
        · omega
  induction l with
  | nil => simp [Lib.indexByte]
  | cons b l ih =>
    unfold Lib.indexByte
    have := h0 l
    by_cases hb : b = c
    · subst hb; simp
    · have hb' : (b == c) = false := by simpa using hb
      rw [hb', List.mem_cons, not_or]
      by_cases h1 : Lib.indexByte l c = -1
      · simp [h1]
        exact ⟨fun h => hb h.symm, ih.1 (by omega)⟩
      · have h1' : (Lib.indexByte l c == -1) = false := by simpa using h1
        simp only [h1', Bool.false_eq_true, if_false]
        constructor
        · intro h; omega
        · intro ⟨_, h⟩
          have := ih.2 h
          omega
/-- The reader at b holds x. -/
def Rdr (b : Nat) (x : ByteArray) (w : World) : Prop := w.heap[b]? = some (.cells #[.string x] 72 (0, 0))
theorem Rdr.cell {b : Nat} {x : ByteArray} {w : World} (h : Rdr b x w) : w.cell? ⟨b, 0, none⟩ = some (.string x) := (blk_cell h 0).trans rfl
theorem Rdr.frozen {b : Nat} {x : ByteArray} {w : World} (h : Rdr b x w) : w.frozen? ⟨b, 0, none⟩ = false := Lib.frozen_of_heap h 0
theorem Rdr.set {b : Nat} {x : ByteArray} {w : World} (h : Rdr b x w) (y : ByteArray) : Rdr b y (w.setCell ⟨b, 0, none⟩ (.string y)) := blk_put h 0 _ rfl
theorem Rdr.lt {b : Nat} {x : ByteArray} {w : World} (h : Rdr b x w) : b < w.heap.size := (Array.getElem?_eq_some_iff.1 h).1
theorem size_cons {x : ByteArray} {c : UInt8} {l : List UInt8} (h : x.data.toList = c :: l) : 0 < x.size := by
  have : x.data.toList.length = x.size := data_length x
  rw [h] at this
  simp at this
  omega
theorem get_cons {x : ByteArray} {c : UInt8} {l : List UInt8} (h : x.data.toList = c :: l) : x[0]'(size_cons h) = c := by
  have h1 : x.data.toList[0]? = some c := by rw [h]; rfl
  rw [Array.getElem?_toList, Array.getElem?_eq_getElem (size_cons h)] at h1
  exact Option.some.inj h1
theorem toList_ne {x : ByteArray} {c : UInt8} {l : List UInt8} (h : x.data.toList = c :: l) : x.toList ≠ [] := by
  rw [Lib.toList_data, h]
  simp
theorem tail_cons {x : ByteArray} {c : UInt8} {l : List UInt8} (h : x.data.toList = c :: l) : (x.extract 1 x.size).data.toList = l := by
  rw [ByteArray.data_extract, Array.toList_extract, h, ← data_length x, h]
  simp [List.extract]
set_option maxHeartbeats 1000000 in
theorem has_empty (b : Nat) (t : ByteArray) (w : World) (x : ByteArray) (hb : Rdr b x w) (hx : x.data.toList = []) :
    Calls Tryd.prog 46 #[.pointer (some ⟨b, 0, none⟩), .string t] w fun e w' => e = .returned (.bool false) ∧ w' = w := by
  have hc := hb.cell
  have hx2 : x.toList = [] := by rw [Lib.toList_data, hx]
  clear hx
  go_enter Tryd.func46, Tryd.ntmps46
  go_wp2_with fail
  go_ret
  exact ⟨rfl, rfl⟩
set_option maxHeartbeats 1000000 in
theorem has_no (b : Nat) (t : ByteArray) (w : World) (x : ByteArray) (c : UInt8) (l : List UInt8) (hb : Rdr b x w) (hx : x.data.toList = c :: l) (hm : c ∉ t.data.toList) :
    Calls Tryd.prog 46 #[.pointer (some ⟨b, 0, none⟩), .string t] w fun e w' => e = .returned (.bool false) ∧ w' = w := by
  have hc := hb.cell
  have hne := toList_ne hx
  have hs := size_cons hx
  have HX := Aside0.mk hx
  have hneg := (indexByte_neg t.data.toList c).2 hm
  clear hx hm
  go_enter Tryd.func46, Tryd.ntmps46
  go_wp2_with fail
  rw [show x[0]'(size_cons HX.out) = c from get_cons HX.out]
  refine (Tryd.strings_IndexByte _ _ _).mono ?_
  rintro e w' ⟨rfl, rfl⟩
  rw [show ((c.toNat : Int)).toNat.toUInt8 = c by simp]
  have hd : decide (Lib.indexByte t.data.toList c < 0) = true := decide_eq_true hneg
  go_wp2_with fail
  go_ret
  exact ⟨rfl, rfl⟩
set_option maxHeartbeats 1000000 in
theorem has_yes (b : Nat) (t : ByteArray) (w : World) (x : ByteArray) (c : UInt8) (l : List UInt8) (hb : Rdr b x w) (hx : x.data.toList = c :: l) (hm : c ∈ t.data.toList) :
    Calls Tryd.prog 46 #[.pointer (some ⟨b, 0, none⟩), .string t] w fun e w' => e = .returned (.bool true) ∧ w' = w.setCell ⟨b, 0, none⟩ (.string (x.extract 1 x.size)) := by
  have hc := hb.cell
  have hf := hb.frozen
  have hne := toList_ne hx
  have hs := size_cons hx
  have HX := Aside0.mk hx
  have hneg : ¬ Lib.indexByte t.data.toList c < 0 := fun h => (indexByte_neg t.data.toList c).1 h hm
  clear hx hm
  go_enter Tryd.func46, Tryd.ntmps46
  go_wp2_with fail
  rw [show x[0]'(size_cons HX.out) = c from get_cons HX.out]
  refine (Tryd.strings_IndexByte _ _ _).mono ?_
  rintro e w' ⟨rfl, rfl⟩
  rw [show ((c.toNat : Int)).toNat.toUInt8 = c by simp]
  have hd : decide (Lib.indexByte t.data.toList c < 0) = false := decide_eq_false (by omega)
  have he : x.toList.isEmpty = false := by rw [List.isEmpty_eq_false_iff]; exact hne
  go_wp2_with fail
  go_ret
  exact ⟨rfl, rfl⟩
def isDig (c : UInt8) : Bool := decide (48 ≤ c.toNat) && decide (c.toNat ≤ 57)
/-- How many digits are ahead. -/
def nDig (l : List UInt8) : Nat := (l.takeWhile isDig).length
theorem nDig_le (l : List UInt8) : nDig l ≤ l.length := (List.takeWhile_sublist _).length_le
theorem nDig_lt {l : List UInt8} {i : Nat} (h : i < nDig l) : ∃ c, l[i]? = some c ∧ isDig c = true := by
  induction l generalizing i with
  | nil => simp [nDig] at h
  | cons c l ih =>
    unfold nDig at h
    rw [List.takeWhile_cons] at h
    by_cases hc : isDig c = true
    · rw [if_pos hc] at h
      rcases i with _ | i
      · exact ⟨c, rfl, hc⟩
      · exact ih (by unfold nDig; simpa using h)
    · rw [if_neg hc] at h
      simp at h
theorem nDig_at {l : List UInt8} {c : UInt8} (h : l[nDig l]? = some c) : isDig c = false := by
  induction l with
  | nil => simp at h
  | cons d l ih =>
    unfold nDig at h
    rw [List.takeWhile_cons] at h
    by_cases hd : isDig d = true
    · rw [if_pos hd, List.length_cons, List.getElem?_cons_succ] at h
      exact ih h
    · rw [if_neg hd] at h
      simp at h
      subst h
      simpa using hd
theorem at_data {x : ByteArray} {i : Nat} (h : i < x.size) : x.data.toList[i]? = some (x[i]'h) := by
  rw [Array.getElem?_toList, Array.getElem?_eq_getElem h]
  rfl
theorem dig_read {x : ByteArray} {i : Nat} (h : i < nDig x.data.toList) : ∃ hs : i < x.size, 48 ≤ (x[i]'hs).toNat ∧ (x[i]'hs).toNat ≤ 57 := by
  have hs : i < x.size := by have := nDig_le x.data.toList; rw [data_length] at this; omega
  obtain ⟨c, h1, h2⟩ := nDig_lt h
  rw [at_data hs] at h1
  obtain rfl := Option.some.inj h1
  refine ⟨hs, ?_⟩
  simpa [isDig] using h2
theorem dig_stop {x : ByteArray} (hs : nDig x.data.toList < x.size) : ¬ (48 ≤ (x[nDig x.data.toList]'hs).toNat ∧ (x[nDig x.data.toList]'hs).toNat ≤ 57) := by
  have := nDig_at (at_data hs)
  simp [isDig] at this
  omega
/-- The chain of a thrown error. -/
def thrown (c : Int) : List PanicEntry := [{ v := .iface 26 (.int .i64 c), recovered := false }]
set_option maxHeartbeats 4000000 in
theorem digits_any (b : Nat) (w : World) (x : ByteArray) (hb : Rdr b x w) (hm : x.size ≤ 9223372036854775807) :
    Calls Tryd.prog 47 #[.pointer (some ⟨b, 0, none⟩)] w fun e w' =>
      (nDig x.data.toList = 0 ∧ e = .panicked (thrown 2) ∧ w' = w) ∨ (nDig x.data.toList ≠ 0 ∧ e = .returned (.string (x.extract 0 (nDig x.data.toList))) ∧ w' = w.setCell ⟨b, 0, none⟩ (.string (x.extract (nDig x.data.toList) x.size))) := by
  have hc := hb.cell
  have hf := hb.frozen
  have hn := nDig_le x.data.toList
  rw [data_length] at hn
  have HR := Aside0.mk (fun i h => @dig_read x i h)
  have HS := Aside0.mk (fun h => @dig_stop x h)
  generalize nDig x.data.toList = n at *
  go_enter Tryd.func47, Tryd.ntmps47
  go_wp2
  go_step3
  go_wp2
  go_step3
  go_wp2
  go_loop [3] (fun v => ∃ i : Nat, i ≤ n ∧ v = .int .i64 i) (fun v => n - (intOf v).toNat)
  case atStart => exact ⟨0, Nat.zero_le _, rfl⟩
  case round =>
    obtain ⟨i, hi, rfl⟩ := hrel
    by_cases hlt : i < n
    · obtain ⟨hs, h1, h2⟩ := HR.out i hlt
      go_wp2_with fail
      · exfalso
        rcases ‹((((i : Int) == (x.size : Int)) = true ∨ ((x[i]'hs).toNat : Int) < 48) ∨ 57 < ((x[i]'hs).toNat : Int))› with (hC | hC) | hC
        · have := eq_of_beq hC
          omega
        · omega
        · omega
      · exfalso
        rcases ‹((((i : Int) == (x.size : Int)) = true ∨ ((x[i]'hs).toNat : Int) < 48) ∨ 57 < ((x[i]'hs).toNat : Int))› with (hC | hC) | hC
        · have := eq_of_beq hC
          omega
        · omega
        · omega
      · refine ⟨⟨i + 1, by omega, by simp⟩, ?_⟩
        simp only [intOf]
        omega
    · obtain rfl : i = n := by omega
      go_wp2_with fail
      · refine ⟨rfl, .inl ⟨?_, rfl, rfl⟩⟩
        have := eq_of_beq ‹((x.size : Int) == 0) = true›
        have : (i : Int) = x.size := ‹_›
        omega
      · try rw [Exit.noGoto_ret]
        go_ret
        have h1 : (i : Int) = x.size := ‹_›
        have h2 := ‹((x.size : Int) == 0) = false›
        obtain rfl : i = x.size := by omega
        refine .inr ⟨?_, by rw [ByteArray.extract_zero_size]; rfl, ?_⟩
        · intro h
          rw [h] at h2
          cases h2
        · rw [ByteArray.extract_eq_empty_iff.2 (by omega)]
      · refine ⟨rfl, .inl ⟨?_, rfl, rfl⟩⟩
        have := eq_of_beq ‹((i : Int) == 0) = true›
        omega
      · try rw [Exit.noGoto_ret]
        go_ret
        have h2 := ‹((i : Int) == 0) = false›
        refine .inr ⟨?_, rfl, rfl⟩
        intro h
        rw [h] at h2
        cases h2
      · exfalso
        have h1 : i < x.size := ‹_›
        have h2 := HS.out h1
        have h3 : 48 ≤ ((x[i]'h1).toNat : Int) := ‹_›
        have h4 := ‹(((i : Int) == (x.size : Int)) = false ∧ 48 ≤ ((x[i]'h1).toNat : Int)) ∧ ((x[i]'h1).toNat : Int) ≤ 57›
        omega
      · refine ⟨rfl, .inl ⟨?_, rfl, rfl⟩⟩
        have := eq_of_beq ‹((i : Int) == 0) = true›
        omega
      · try rw [Exit.noGoto_ret]
        go_ret
        have h2 := ‹((i : Int) == 0) = false›
        refine .inr ⟨?_, rfl, rfl⟩
        intro h
        rw [h] at h2
        cases h2
end Go.Proofs.YtmkdcokdilllcaaDoor.X
/- num's reader: the exponent. -/
namespace Go.Proofs.YtmkdcokdilllcaaDoor.X
open Go.RowKit Go.Proofs.YtmkdcokdilllcaaDoorW.PrintWords Go.Proofs.YtmkdcokdilllcaaDoorW.PrintLast Go.Proofs.YtmkdcokdilllcaaDoorW.PrintMore
set_option linter.unusedVariables false
set_option linter.unusedSimpArgs false
theorem Rdr.below {b : Nat} {x : ByteArray} {w w' : World} (h : Rdr b x w) (hb : Below w.heap.size w w') : Rdr b x w' := by
  unfold Rdr
  rw [hb.block b h.lt]
  exact h
/-- Is the next byte one of these? -/
def hasF (t x : ByteArray) : Bool := match x.data.toList with
  | [] => false
  | c :: _ => decide (c ∈ t.data.toList)
/-- What is left then. -/
def hasR (t x : ByteArray) : ByteArray := if hasF t x = true then x.extract 1 x.size else x
theorem has_any (b : Nat) (t : ByteArray) (w : World) (x : ByteArray) (hb : Rdr b x w) :
    Calls Tryd.prog 46 #[.pointer (some ⟨b, 0, none⟩), .string t] w fun e w' => e = .returned (.bool (hasF t x)) ∧ Rdr b (hasR t x) w' ∧ Below b w w' := by
  rcases hx : x.data.toList with _ | ⟨c, l⟩
  · have h1 : hasF t x = false := by simp only [hasF, hx]
    have h2 : hasR t x = x := by simp [hasR, h1]
    rw [h1, h2]
    refine (has_empty b t w x hb hx).mono ?_
    rintro e w' ⟨rfl, rfl⟩
    exact ⟨rfl, hb, Below.refl _ _⟩
  · by_cases hm : c ∈ t.data.toList
    · have h1 : hasF t x = true := by simp only [hasF, hx]; exact decide_eq_true hm
      have h2 : hasR t x = x.extract 1 x.size := by simp [hasR, h1]
      rw [h1, h2]
      refine (has_yes b t w x c l hb hx hm).mono ?_
      rintro e w' ⟨rfl, rfl⟩
      exact ⟨rfl, hb.set _, (Below.refl _ _).setCell (p := ⟨b, 0, none⟩) (Nat.le_refl b) _⟩
    · have h1 : hasF t x = false := by simp only [hasF, hx]; exact decide_eq_false hm
      have h2 : hasR t x = x := by simp [hasR, h1]
      rw [h1, h2]
      refine (has_no b t w x c l hb hx hm).mono ?_
      rintro e w' ⟨rfl, rfl⟩
      exact ⟨rfl, hb, Below.refl _ _⟩
theorem hasR_size (t x : ByteArray) : (hasR t x).size ≤ x.size := by
  unfold hasR
  split
  · rw [ByteArray.size_extract]; omega
  · exact Nat.le_refl _
/-- The digits ahead, and what is left behind them. -/
def digF (x : ByteArray) : ByteArray := x.extract 0 (nDig x.data.toList)
def digR (x : ByteArray) : ByteArray := x.extract (nDig x.data.toList) x.size
theorem digR_size (x : ByteArray) : (digR x).size ≤ x.size := by
  unfold digR
  rw [ByteArray.size_extract]; omega
theorem digits_calls (b : Nat) (w : World) (x : ByteArray) (hb : Rdr b x w) (hm : x.size ≤ 9223372036854775807) :
    Calls Tryd.prog 47 #[.pointer (some ⟨b, 0, none⟩)] w fun e w' =>
      (nDig x.data.toList = 0 ∧ e = .panicked (thrown 2) ∧ Below b w w') ∨ (nDig x.data.toList ≠ 0 ∧ e = .returned (.string (digF x)) ∧ Rdr b (digR x) w' ∧ Below b w w') := by
  refine (digits_any b w x hb hm).mono ?_
  rintro e w' (⟨h, rfl, rfl⟩ | ⟨h, rfl, rfl⟩)
  · exact .inl ⟨h, rfl, Below.refl _ _⟩
  · exact .inr ⟨h, rfl, hb.set _, (Below.refl _ _).setCell (p := ⟨b, 0, none⟩) (Nat.le_refl b) _⟩
theorem digF_data (x : ByteArray) : (digF x).data.toList = x.data.toList.takeWhile isDig := by
  unfold digF
  rw [ByteArray.data_extract, Array.toList_extract, List.extract, Nat.sub_zero, List.drop_zero]
  unfold nDig
  generalize x.data.toList = l
  induction l with
  | nil => rfl
  | cons c l ih =>
    rw [List.takeWhile_cons]
    split
    · rw [List.length_cons, List.take_succ_cons, ih]
    · rfl
theorem decFrom_some (l : List UInt8) (h : ∀ c ∈ l, isDig c = true) (a : Nat) : ∃ n, Lib.decFrom a l = some n := by
  induction l generalizing a with
  | nil => exact ⟨a, rfl⟩
  | cons c l ih =>
    have hc := h c (List.mem_cons_self)
    simp [isDig] at hc
    unfold Lib.decFrom
    simp only [Lib.digitVal, hc, and_self, if_true]
    exact ih (fun d hd => h d (List.mem_cons_of_mem _ hd)) _
theorem decFrom_bound (l : List UInt8) (a n : Nat) (h : Lib.decFrom a l = some n) : n < (a + 1) * 10 ^ l.length := by
  induction l generalizing a with
  | nil => simp [Lib.decFrom] at h; subst h; simp
  | cons c l ih =>
    unfold Lib.decFrom Lib.digitVal at h
    by_cases hc : 48 ≤ c.toNat ∧ c.toNat ≤ 57
    · rw [if_pos hc] at h
      have h1 := ih _ h
      have h2 : (a * 10 + (c.toNat - 48) + 1) * 10 ^ l.length ≤ (a + 1) * 10 * 10 ^ l.length := Nat.mul_le_mul_right _ (by omega)
      rw [List.length_cons, Nat.pow_succ, Nat.mul_comm (10 ^ l.length) 10, ← Nat.mul_assoc]
      exact Nat.lt_of_lt_of_le h1 h2
    · rw [if_neg hc] at h
      cases h
/-- The digits of an exponent, without noughts ahead. -/
def expD (x : ByteArray) : List UInt8 := Lib.trimLeftB (digF x).data.toList 48
theorem trim_mem (l : List UInt8) (c : UInt8) : ∀ d ∈ Lib.trimLeftB l c, d ∈ l := fun d hd => (List.dropWhile_sublist _).subset hd
theorem mem_takeWhile {p : UInt8 → Bool} {l : List UInt8} {c : UInt8} (h : c ∈ l.takeWhile p) : p c = true := by
  induction l with
  | nil => simp at h
  | cons b l ih =>
    rw [List.takeWhile_cons] at h
    split at h
    · rcases List.mem_cons.1 h with h | h
      · subst h; assumption
      · exact ih h
    · simp at h
theorem expD_dig (x : ByteArray) : ∀ c ∈ expD x, isDig c = true := by
  intro c hc
  have h1 := trim_mem _ _ c hc
  rw [digF_data] at h1
  exact mem_takeWhile h1
def expV (x : ByteArray) : Int := if (expD x).length ≤ 6 then (((Lib.decFrom 0 (expD x)).getD 0 : Nat) : Int) else 1048576
theorem expV_bound (x : ByteArray) : 0 ≤ expV x ∧ expV x ≤ 1048576 := by
  unfold expV
  split
  · rename_i h
    obtain ⟨n, hn⟩ := decFrom_some _ (expD_dig x) 0
    have h1 := decFrom_bound _ _ _ hn
    have h2 : 10 ^ (expD x).length ≤ 10 ^ 6 := Nat.pow_le_pow_right (by decide) h
    rw [hn, Option.getD_some]
    omega
  · omega
/-- What stands behind an exponent's sign. -/
def expS (x : ByteArray) : ByteArray := if hasF ⟨#[45]⟩ (hasR ⟨#[101, 69]⟩ x) = true then hasR ⟨#[45]⟩ (hasR ⟨#[101, 69]⟩ x) else hasR ⟨#[43]⟩ (hasR ⟨#[45]⟩ (hasR ⟨#[101, 69]⟩ x))
/-- The exponent, and what is left. -/
def expF (x : ByteArray) : Option (Int × ByteArray) :=
  if hasF ⟨#[101, 69]⟩ x = true then
    (if nDig (expS x).data.toList = 0 then none else some (if hasF ⟨#[45]⟩ (hasR ⟨#[101, 69]⟩ x) = true then -expV (expS x) else expV (expS x), digR (expS x)))
  else some (0, x)
theorem expS_size (x : ByteArray) : (expS x).size ≤ x.size := by
  have h1 := hasR_size ⟨#[101, 69]⟩ x
  have h2 := hasR_size ⟨#[45]⟩ (hasR ⟨#[101, 69]⟩ x)
  have h3 := hasR_size ⟨#[43]⟩ (hasR ⟨#[45]⟩ (hasR ⟨#[101, 69]⟩ x))
  unfold expS
  split <;> omega
theorem cat48_size (l : List UInt8) : (ByteArray.mk #[48] ++ ByteArray.mk l.toArray).size = l.length + 1 := by
  rw [ByteArray.size_append]
  simp [ByteArray.size]
  omega
theorem cat48_atoi (l : List UInt8) (h : ∀ c ∈ l, isDig c = true) : Lib.atoi (ByteArray.mk #[48] ++ ByteArray.mk l.toArray).data.toList = some (((Lib.decFrom 0 l).getD 0 : Nat) : Int) := by
  obtain ⟨n, hn⟩ := decFrom_some l h 0
  rw [hn, ByteArray.data_append]
  simp [Lib.atoi, Lib.decNat, Lib.decFrom, Lib.digitVal, hn]
theorem bw_below (w : World) (e : TypeId) (s : ByteArray) : Below w.heap.size w (Lib.bytesWorld w e s) := ⟨rfl, rfl, rfl, by rw [Lib.bytesWorld_size]; omega, fun k hk => Lib.bytesWorld_at_old w e s k hk⟩
theorem exp_atoi (x : ByteArray) (h : (expD x).length ≤ 6) : Lib.atoi (ByteArray.mk #[48] ++ ByteArray.mk (expD x).toArray).data.toList = some (expV x) := by
  rw [cat48_atoi _ (expD_dig x)]
  simp only [expV, h, if_true]
set_option maxHeartbeats 4000000 in
theorem exponent_calls (b : Nat) (w : World) (x : ByteArray) (hb : Rdr b x w) (hm : x.size ≤ 2000) :
    Calls Tryd.prog 48 #[.pointer (some ⟨b, 0, none⟩)] w fun e w' =>
      (expF x = none ∧ e = .panicked (thrown 2) ∧ Below b w w') ∨ (∃ v y, expF x = some (v, y) ∧ e = .returned (.int .i64 v) ∧ Rdr b y w' ∧ Below b w w') := by
  have HS := Aside0.mk (expS_size x)
  go_enter Tryd.func48, Tryd.ntmps48
  go_wp2_with fail
  refine (has_any b _ w x hb).mono ?_
  rintro e w1 ⟨rfl, h1, b1⟩
  by_cases he : hasF ⟨#[101, 69]⟩ x = true
  · rw [he]
    go_wp2_with fail
    refine (has_any b _ w1 _ h1).mono ?_
    rintro e w2 ⟨rfl, h2, b2⟩
    by_cases hl : hasF ⟨#[45]⟩ (hasR ⟨#[101, 69]⟩ x) = true
    · rw [hl]
      have EE : expS x = hasR ⟨#[45]⟩ (hasR ⟨#[101, 69]⟩ x) := by simp only [expS, hl, if_true]
      generalize hy : hasR ⟨#[45]⟩ (hasR ⟨#[101, 69]⟩ x) = y at *
      clear hy
      go_wp2_with fail
      refine (digits_calls b w2 _ h2 (by rw [← EE]; have := HS.out; omega)).mono ?_
      rintro e w4 (⟨hz, rfl, b4⟩ | ⟨hz, rfl, h4, b4⟩)
      · go_wp2_with fail
        exact ⟨rfl, .inl ⟨by simp only [expF, he, if_true]; rw [EE, if_pos hz], rfl, (b1.trans b2).trans b4⟩⟩
      go_wp2_with fail
      refine (Tryd.strings_TrimLeft_one _ 48 (by decide) _).mono ?_
      rintro e w5 ⟨rfl, rfl⟩
      rw [show (Lib.trimLeftB (digF y).data.toList 48).toArray = (expD y).toArray from rfl]
      have HV := expV_bound y
      have HF : expF x = some (-expV y, digR y) := by simp only [expF, he, if_true]; rw [EE, if_neg hz, if_pos hl]
      by_cases hl6 : (expD y).length ≤ 6
      · have hsz : ((ByteArray.mk (expD y).toArray).size : Int) = ((expD y).length : Nat) := by simp [ByteArray.size]
        have HA := Aside0.mk (exp_atoi y hl6)
        go_wp2_with fail
        refine (Tryd.strconv_Atoi _ (expV y) (by rw [cat48_size]; omega) HA.out _).mono ?_
        rintro e w6 ⟨rfl, t, rfl⟩
        have b6 := bw_below w5 5 t
        have h6 := h4.below b6
        have c6 := (b1.trans b2).trans (b4.trans (b6.mono (Nat.le_of_lt h4.lt)))
        clear b6
        generalize Lib.bytesWorld w5 5 t = w7 at *
        clear HA
        generalize expV y = v at *
        go_wp2_with fail
        go_ret
        exact .inr ⟨_, _, HF, by go_num, h6, c6⟩
      · have hsz : ((ByteArray.mk (expD y).toArray).size : Int) = ((expD y).length : Nat) := by simp [ByteArray.size]
        have hv : expV y = 1048576 := by simp only [expV, hl6, if_false]
        rw [hv] at HF
        go_wp2_with fail
        go_ret
        exact .inr ⟨_, _, HF, rfl, h4, (b1.trans b2).trans b4⟩
    · rw [Bool.not_eq_true] at hl
      rw [hl]
      have EE : expS x = hasR ⟨#[43]⟩ (hasR ⟨#[45]⟩ (hasR ⟨#[101, 69]⟩ x)) := by simp [expS, hl]
      go_wp2_with fail
      refine (has_any b _ w2 _ h2).mono ?_
      rintro e w3 ⟨rfl, h3, b3⟩
      generalize hy : hasR ⟨#[43]⟩ (hasR ⟨#[45]⟩ (hasR ⟨#[101, 69]⟩ x)) = y at *
      clear hy
      go_wp2_with fail
      refine (digits_calls b w3 _ h3 (by rw [← EE]; have := HS.out; omega)).mono ?_
      rintro e w4 (⟨hz, rfl, b4⟩ | ⟨hz, rfl, h4, b4⟩)
      · go_wp2_with fail
        exact ⟨rfl, .inl ⟨by simp only [expF, he, if_true]; rw [EE, if_pos hz], rfl, (b1.trans (b2.trans b3)).trans b4⟩⟩
      go_wp2_with fail
      refine (Tryd.strings_TrimLeft_one _ 48 (by decide) _).mono ?_
      rintro e w5 ⟨rfl, rfl⟩
      rw [show (Lib.trimLeftB (digF y).data.toList 48).toArray = (expD y).toArray from rfl]
      have HV := expV_bound y
      have HF : expF x = some (expV y, digR y) := by simp only [expF, he, if_true]; rw [EE, if_neg hz]; rw [hl, if_neg (by simp)]
      by_cases hl6 : (expD y).length ≤ 6
      · have hsz : ((ByteArray.mk (expD y).toArray).size : Int) = ((expD y).length : Nat) := by simp [ByteArray.size]
        have HA := Aside0.mk (exp_atoi y hl6)
        go_wp2_with fail
        refine (Tryd.strconv_Atoi _ (expV y) (by rw [cat48_size]; omega) HA.out _).mono ?_
        rintro e w6 ⟨rfl, t, rfl⟩
        have b6 := bw_below w5 5 t
        have h6 := h4.below b6
        have c6 := (b1.trans (b2.trans b3)).trans (b4.trans (b6.mono (Nat.le_of_lt h4.lt)))
        clear b6
        generalize Lib.bytesWorld w5 5 t = w7 at *
        clear HA
        generalize expV y = v at *
        go_wp2_with fail
        go_ret
        exact .inr ⟨_, _, HF, by rfl, h6, c6⟩
      · have hsz : ((ByteArray.mk (expD y).toArray).size : Int) = ((expD y).length : Nat) := by simp [ByteArray.size]
        have hv : expV y = 1048576 := by simp only [expV, hl6, if_false]
        rw [hv] at HF
        go_wp2_with fail
        go_ret
        exact .inr ⟨_, _, HF, rfl, h4, (b1.trans (b2.trans b3)).trans b4⟩
  · rw [Bool.not_eq_true] at he
    rw [he]
    go_wp2_with fail
    go_ret
    exact .inr ⟨0, x, by simp [expF, he], rfl, by simpa [hasR, he] using h1, b1⟩
end Go.Proofs.YtmkdcokdilllcaaDoor.X
/- num's number: a text is read. -/
namespace Go.Proofs.YtmkdcokdilllcaaDoor.X
open Go.RowKit Go.Proofs.YtmkdcokdilllcaaDoorW.PrintWords Go.Proofs.YtmkdcokdilllcaaDoorW.PrintLast Go.Proofs.YtmkdcokdilllcaaDoorW.PrintMore
set_option linter.unusedVariables false
set_option linter.unusedSimpArgs false
/-- The reader stands at g3, number's result at g2, all else is as it was. -/
structure St (w : World) (g2 g3 : Nat) (x : ByteArray) (W : World) : Prop where
  rdr : Rdr g3 x W
  res : W.heap[g2]? = some (.cells #[.bool false, .slice none 0 0, .int .i64 0] 25 (0, 0))
  lt : g2 < g3
  le : w.heap.size ≤ g2
  below : Below w.heap.size w W
theorem St.step {w W w' : World} {g2 g3 : Nat} {x y : ByteArray} (h : St w g2 g3 x W) (hr : Rdr g3 y w') (hb : Below g3 W w') : St w g2 g3 y w' :=
  ⟨hr, by rw [hb.block g2 h.lt]; exact h.res, h.lt, h.le, h.below.trans (hb.mono (Nat.le_of_lt (Nat.lt_of_le_of_lt h.le h.lt)))⟩
theorem St.fin {w W w' : World} {g2 g3 : Nat} {x : ByteArray} (h : St w g2 g3 x W) (hb : Below g3 W w') : Below w.heap.size w w' := h.below.trans (hb.mono (Nat.le_of_lt (Nat.lt_of_le_of_lt h.le h.lt)))
theorem St.old {w W w' : World} {g2 g3 : Nat} {x : ByteArray} (h : St w g2 g3 x W) (hb : Below W.heap.size W w') : St w g2 g3 x w' := h.step (h.rdr.below hb) (hb.mono (Nat.le_of_lt h.rdr.lt))
theorem has_st {w W : World} {g2 g3 : Nat} {x : ByteArray} (h : St w g2 g3 x W) (t : ByteArray) :
    Calls Tryd.prog 46 #[.pointer (some ⟨g3, 0, none⟩), .string t] W fun e w' => e = .returned (.bool (hasF t x)) ∧ St w g2 g3 (hasR t x) w' :=
  (has_any g3 t W x h.rdr).mono fun e w' ⟨h1, h2, h3⟩ => ⟨h1, h.step h2 h3⟩
theorem digits_st {w W : World} {g2 g3 : Nat} {x : ByteArray} (h : St w g2 g3 x W) (hm : x.size ≤ 2000) :
    Calls Tryd.prog 47 #[.pointer (some ⟨g3, 0, none⟩)] W fun e w' =>
      (nDig x.data.toList = 0 ∧ e = .panicked (thrown 2) ∧ Below w.heap.size w w') ∨ (nDig x.data.toList ≠ 0 ∧ e = .returned (.string (digF x)) ∧ St w g2 g3 (digR x) w') :=
  (digits_calls g3 W x h.rdr (by omega)).mono fun e w' hh => hh.elim (fun ⟨h1, h2, h3⟩ => .inl ⟨h1, h2, h.fin h3⟩) (fun ⟨h1, h2, h3, h4⟩ => .inr ⟨h1, h2, h.step h3 h4⟩)
theorem exponent_st {w W : World} {g2 g3 : Nat} {x : ByteArray} (h : St w g2 g3 x W) (hm : x.size ≤ 2000) :
    Calls Tryd.prog 48 #[.pointer (some ⟨g3, 0, none⟩)] W fun e w' =>
      (expF x = none ∧ e = .panicked (thrown 2) ∧ Below w.heap.size w w') ∨ (∃ v y, expF x = some (v, y) ∧ e = .returned (.int .i64 v) ∧ St w g2 g3 y w') :=
  (exponent_calls g3 W x h.rdr hm).mono fun e w' hh => hh.elim (fun ⟨h1, h2, h3⟩ => .inl ⟨h1, h2, h.fin h3⟩) (fun ⟨v, y, h1, h2, h3, h4⟩ => .inr ⟨v, y, h1, h2, h.step h3 h4⟩)
/-- The end of a text: an exponent, and nothing more. -/
def numE (neg : Bool) (m : ByteArray) (n : Int) (x : ByteArray) : Option (Bool × ByteArray × Int × Int) :=
  match expF x with
  | none => none
  | some (p, y) => if y.size = 0 then some (neg, m, n, p) else none
/-- Is a nought ahead of other digits? -/
def lead (x : ByteArray) : Bool := decide (x.size > 1) && (x.data.toList.headD 0 == 48)
/-- What a text says: its sign, its digits, how many of them stand behind the point, its exponent. -/
def numP (s : ByteArray) : Option (Bool × ByteArray × Int × Int) :=
  if nDig (hasR ⟨#[45]⟩ s).data.toList = 0 then none
  else if lead (digF (hasR ⟨#[45]⟩ s)) = true then none
  else if hasF ⟨#[46]⟩ (digR (hasR ⟨#[45]⟩ s)) = true then
    (if nDig (hasR ⟨#[46]⟩ (digR (hasR ⟨#[45]⟩ s))).data.toList = 0 then none
     else numE (hasF ⟨#[45]⟩ s) (digF (hasR ⟨#[45]⟩ s) ++ digF (hasR ⟨#[46]⟩ (digR (hasR ⟨#[45]⟩ s)))) ((digF (hasR ⟨#[46]⟩ (digR (hasR ⟨#[45]⟩ s)))).size : Int) (digR (hasR ⟨#[46]⟩ (digR (hasR ⟨#[45]⟩ s)))))
  else numE (hasF ⟨#[45]⟩ s) (digF (hasR ⟨#[45]⟩ s) ++ ⟨#[]⟩) 0 (hasR ⟨#[46]⟩ (digR (hasR ⟨#[45]⟩ s)))
def numK (k : Nat) (neg : Bool) (m : ByteArray) (n p : Int) : Option (Bool × List Int × Int × Int) :=
  (nat_Parse.f k m).bind fun r => (num_Make.f k neg r.1 (wrap64 (p - n))).bind fun q =>
    if q.2.2.2 = false ∨ (0 < q.2.1.length ∧ (p = 1048576 ∨ p = -1048576)) then some (false, [], 0, 4) else some (q.1, q.2.1, q.2.2.1, 0)
def numG (k : Nat) (s : ByteArray) : Option (Bool × List Int × Int × Int) :=
  if s.size > 2000 then some (false, [], 0, 4) else
  match numP s with
  | none => some (false, [], 0, 2)
  | some (neg, m, n, p) => numK k neg m n p
theorem digF_size (x : ByteArray) : (digF x).size ≤ x.size := by
  unfold digF
  rw [ByteArray.size_extract]; omega
theorem size_pos {x : ByteArray} (h : nDig x.data.toList ≠ 0) : 0 < (digF x).size := by
  unfold digF
  have h1 := nDig_le x.data.toList
  rw [data_length] at h1
  rw [ByteArray.size_extract]
  omega
theorem head_at {x : ByteArray} (h : 0 < x.size) : x.data.toList.headD 0 = x[0]'h := by
  have h1 := at_data h
  rw [List.headD_eq_head?_getD, List.head?_eq_getElem?, h1]
  rfl
theorem lead_yes {x : ByteArray} (h : 0 < x.size) (hl : lead x = true) : decide ((1 : Int) < (x.size : Int)) = true ∧ ((((x[0]'h).toNat : Int) == 48) = true) := by
  simp only [lead, Bool.and_eq_true, decide_eq_true_eq] at hl
  rw [head_at h] at hl
  refine ⟨decide_eq_true (by omega), ?_⟩
  rw [eq_of_beq hl.2]
  rfl
theorem lead_no {x : ByteArray} (h : 0 < x.size) (hl : lead x = false) : decide ((1 : Int) < (x.size : Int)) = false ∨ (decide ((1 : Int) < (x.size : Int)) = true ∧ ((((x[0]'h).toNat : Int) == 48) = false)) := by
  by_cases h1 : (1 : Int) < (x.size : Int)
  · refine .inr ⟨decide_eq_true h1, ?_⟩
    rw [lead, decide_eq_true (by omega), Bool.true_and, head_at h] at hl
    rw [beq_eq_false_iff_ne] at hl ⊢
    intro h2
    refine hl (UInt8.toNat_inj.1 ?_)
    have : (48 : UInt8).toNat = 48 := rfl
    omega
  · exact .inl (decide_eq_false h1)
set_option maxRecDepth 100000 in
set_option maxHeartbeats 8000000 in
theorem number_calls (k : Nat) (s : ByteArray) (r1 : Bool) (r2 : List Int) (r3 r4 : Int) (w : World) (h : numG k s = some (r1, r2, r3, r4)) :
    Calls Tryd.prog 26 #[.string s] w fun e w' =>
      (r1 = false ∧ r2 = [] ∧ r3 = 0 ∧ (r4 = 2 ∨ r4 = 4) ∧ e = .panicked (thrown r4) ∧ Below w.heap.size w w') ∨
      (r4 = 0 ∧ ∃ v1_, e = .returned (.agg #[.bool r1, v1_, .int .i64 r3]) ∧ Kd.R (Kd.int .u32) 40 w' w.heap.size (fun _ => True) v1_ r2 ∧ Below w.heap.size w w') := by
  have HB := Aside0.mk (Below.refl w.heap.size w)
  by_cases hbig : s.size > 2000
  · unfold numG at h
    rw [if_pos hbig] at h
    simp only [Option.some.injEq, Prod.mk.injEq] at h
    obtain ⟨rfl, rfl, rfl, rfl⟩ := h
    have hd : decide ((2000 : Int) < (s.size : Int)) = true := decide_eq_true (by omega)
    go_enter Tryd.func26, Tryd.ntmps26
    go_wp2
    exact ⟨rfl, .inl ⟨trivial, trivial, trivial, .inr trivial, rfl, below_alloc (Below.refl _ _) _⟩⟩
  · unfold numG at h
    rw [if_neg hbig] at h
    have HH := Aside0.mk h
    clear h
    have hd : decide ((2000 : Int) < (s.size : Int)) = false := decide_eq_false (by omega)
    go_enter Tryd.func26, Tryd.ntmps26
    go_wp2_with (first
      | ((with_reducible refine gate_dst (N := 2) rfl ?_); refine box_event ?hg (N := 2) ?hd (cs := #[.bool false, .slice none 0 0, .int .i64 0]) (t := 25) ?hr ?_; (case hd => rfl); (case hg => rfl); (case hr => first | (go_simp; done) | (go_simp; rfl)); intro g2 hg2 w2 hbox2 hb2; have B2 := Aside0.mk hbox2; have HB2 := Aside0.mk hb2; have G2 := Aside0.mk hg2; clear hbox2 hb2 hg2)
      | ((with_reducible refine gate_dst (N := 18) rfl ?_); refine box_event ?hg (N := 18) ?hd (cs := #[.string s]) (t := 72) ?hr ?_; (case hd => rfl); (case hg => rfl); (case hr => first | (go_simp; done) | (go_simp; rfl)); intro g3 hg3 w3 hbox3 hb3; have B3 := Aside0.mk hbox3; have HB3 := Aside0.mk hb3; have G3 := Aside0.mk hg3; clear hbox3 hb3 hg3)
      | fail)
    have hlt : g2 < w2.heap.size := blk_lt B2.out
    have hle : w.heap.size ≤ w2.heap.size := HB2.out.size
    have S : St w g2 g3 s w3 := ⟨B3.out, by rw [HB3.out.block g2 hlt]; exact B2.out, by have := G3.out; omega, by have := G2.out; omega, HB2.out.trans (HB3.out.mono hle)⟩
    clear B3 B2 HB2 HB3 G2 G3 hlt hle
    refine (has_st S _).mono ?_
    rintro e w4 ⟨rfl, S4⟩
    go_wp2_with fail
    refine (digits_st S4 (by have := hasR_size ⟨#[45]⟩ s; omega)).mono ?_
    rintro e w5 (⟨hz, rfl, b5⟩ | ⟨hz, rfl, S5⟩)
    · go_wp2_with fail
      have h0 : numP s = none := by unfold numP; rw [if_pos hz]
      have H := HH.out
      rw [h0] at H
      simp only [Option.some.injEq, Prod.mk.injEq] at H
      obtain ⟨rfl, rfl, rfl, rfl⟩ := H
      exact ⟨rfl, .inl ⟨rfl, rfl, rfl, .inl rfl, rfl, b5⟩⟩
    have hpos := size_pos hz
    by_cases hld : lead (digF (hasR ⟨#[45]⟩ s)) = true
    · obtain ⟨ha, hb⟩ := lead_yes hpos hld
      have h0 : numP s = none := by unfold numP; rw [if_neg hz, if_pos hld]
      have H := HH.out
      rw [h0] at H
      simp only [Option.some.injEq, Prod.mk.injEq] at H
      obtain ⟨rfl, rfl, rfl, rfl⟩ := H
      clear HH
      go_wp2_with fail
      exact ⟨rfl, rfl, S5.below⟩
    rw [Bool.not_eq_true] at hld
    have hP : numP s = if hasF ⟨#[46]⟩ (digR (hasR ⟨#[45]⟩ s)) = true then
    (if nDig (hasR ⟨#[46]⟩ (digR (hasR ⟨#[45]⟩ s))).data.toList = 0 then none
     else numE (hasF ⟨#[45]⟩ s) (digF (hasR ⟨#[45]⟩ s) ++ digF (hasR ⟨#[46]⟩ (digR (hasR ⟨#[45]⟩ s)))) ((digF (hasR ⟨#[46]⟩ (digR (hasR ⟨#[45]⟩ s)))).size : Int) (digR (hasR ⟨#[46]⟩ (digR (hasR ⟨#[45]⟩ s)))))
  else numE (hasF ⟨#[45]⟩ s) (digF (hasR ⟨#[45]⟩ s) ++ ⟨#[]⟩) 0 (hasR ⟨#[46]⟩ (digR (hasR ⟨#[45]⟩ s))) := by
      unfold numP; rw [if_neg hz, if_neg (by rw [hld]; decide)]
    have hs1 : (digR (hasR ⟨#[45]⟩ s)).size ≤ 2000 := by
      have := hasR_size ⟨#[45]⟩ s
      have := digR_size (hasR ⟨#[45]⟩ s)
      omega
    have hno := lead_no hpos hld
    have hdm : (digF (hasR ⟨#[45]⟩ s)).size ≤ 2000 := Nat.le_trans (digF_size _) (by have := hasR_size ⟨#[45]⟩ s; omega)
    generalize numP s = P at *
    generalize hasF ⟨#[45]⟩ s = neg at *
    generalize digR (hasR ⟨#[45]⟩ s) = x1 at *
    generalize digF (hasR ⟨#[45]⟩ s) = d at *
    clear hld hz
    have hu25 := Tryd.underlying25
    have HP := Aside0.mk hP
    clear hP
    rcases hno with ha | ⟨ha, hb⟩
    · go_wp2_with fail
      refine (has_st S5 _).mono ?_
      rintro e w6 ⟨rfl, S6⟩
      by_cases hpt : hasF ⟨#[46]⟩ x1 = true
      · rw [hpt]
        go_wp2_with fail
        refine (digits_st S6 (by have := hasR_size ⟨#[46]⟩ x1; omega)).mono ?_
        rintro e w7 (⟨hz, rfl, b7⟩ | ⟨hz, rfl, S7⟩)
        · go_wp2_with fail
          have H := HH.out
          rw [HP.out, if_pos hpt, if_pos hz] at H
          simp only [Option.some.injEq, Prod.mk.injEq] at H
          obtain ⟨rfl, rfl, rfl, rfl⟩ := H
          exact ⟨rfl, .inl ⟨rfl, rfl, rfl, .inl rfl, rfl, b7⟩⟩
        have HQ := HH.out
        rw [HP.out, if_pos hpt, if_neg hz] at HQ
        have HH := Aside0.mk HQ
        clear HQ HP hpt hz
        have hfm : (digF (hasR ⟨#[46]⟩ x1)).size ≤ 2000 := Nat.le_trans (digF_size _) (by have := hasR_size ⟨#[46]⟩ x1; omega)
        have hs2 : (digR (hasR ⟨#[46]⟩ x1)).size ≤ 2000 := Nat.le_trans (digR_size _) (by have := hasR_size ⟨#[46]⟩ x1; omega)
        generalize digF (hasR ⟨#[46]⟩ x1) = frac at *
        generalize digR (hasR ⟨#[46]⟩ x1) = x2 at *
        go_wp2_with fail
        refine (exponent_st S7 (by omega)).mono ?_
        rintro e w8 (⟨hx, rfl, b8⟩ | ⟨p, y, hx, rfl, S8⟩)
        · go_wp2_with fail
          have H := HH.out
          have hE : numE neg (d ++ frac) (frac.size : Int) x2 = none := by unfold numE; rw [hx]
          rw [hE] at H
          simp only [Option.some.injEq, Prod.mk.injEq] at H
          obtain ⟨rfl, rfl, rfl, rfl⟩ := H
          exact ⟨rfl, .inl ⟨rfl, rfl, rfl, .inl rfl, rfl, b8⟩⟩
        have hc8 := S8.rdr.cell
        by_cases hy : y.size = 0
        · have hE : numE neg (d ++ frac) (frac.size : Int) x2 = some (neg, (d ++ frac), (frac.size : Int), p) := by unfold numE; rw [hx]; exact if_pos hy
          have H := HH.out
          rw [hE] at H
          replace H : numK k neg (d ++ frac) (frac.size : Int) p = some (r1, r2, r3, r4) := H
          clear HH hE
          unfold numK at H
          obtain ⟨⟨m1, ok1⟩, A1, H⟩ := Option.bind_eq_some_iff.mp H
          obtain ⟨⟨q1, q2, q3, q4⟩, A2, H⟩ := Option.bind_eq_some_iff.mp H
          replace A2 : num_Make.f k neg m1 (wrap64 (p - (frac.size : Int))) = some (q1, q2, q3, q4) := A2
          try rw [Int.sub_zero] at A2
          replace H : (if q4 = false ∨ (0 < q2.length ∧ (p = 1048576 ∨ p = -1048576)) then some (false, [], 0, 4) else some (q1, q2, q3, 0)) = some (r1, r2, r3, r4) := H
          have HA1 := Aside0.mk A1
          have HA2 := Aside0.mk A2
          have HH := Aside0.mk H
          clear A1 A2 H hx
          obtain rfl : y = ⟨#[]⟩ := by
            apply ByteArray.ext
            exact Array.eq_empty_of_size_eq_zero hy
          clear hy
          go_wp2_with fail
          refine (nat_Parse.calls k _ m1 ok1 _ HA1.out).mono ?_
          rintro e w9 ⟨v, rfl, ho, hb⟩
          obtain ⟨Ao, co, rfl⟩ := Kd.R_slice ho
          have HO := Aside0.mk ho
          have S9 := S8.old hb
          clear ho hb hc8
          go_wp2_with fail
          refine (num_Make.calls k neg Ao co m1 _ q1 q2 q3 q4 _ (Kd.R_reads' HO.out).2.2 (Kd.R_reads' HO.out).2.1 HA2.out).mono ?_
          rintro e w10 ⟨v, rfl, ho, hb⟩
          obtain ⟨Aq, cq, rfl⟩ := Kd.R_slice ho
          have HO2 := Aside0.mk ho
          have S10 := S9.old hb
          clear ho hb HO HA2 HA1
          have H := HH.out
          by_cases hbad : q4 = false ∨ (0 < q2.length ∧ (p = 1048576 ∨ p = -1048576))
          · rw [if_pos hbad] at H
            simp only [Option.some.injEq, Prod.mk.injEq] at H
            obtain ⟨rfl, rfl, rfl, rfl⟩ := H
            clear HH
            have HBB : ∀ W : World, Below w.heap.size w W → ∀ g : Nat, w.heap.size ≤ g → ∀ (n : Nat) (v : Value), Below w.heap.size w (W.setCell ⟨g, n, none⟩ v) := fun W h g hg n v => h.setCell hg v
            rcases hbad with rfl | ⟨hq, rfl | rfl⟩
            · go_wp2_with (first | ((with_reducible refine gate_dst (N := 10) rfl ?_); refine box_event ?hg (N := 10) ?hd (cs := #[.bool false, .slice none 0 0, .int .i64 0]) (t := 25) ?hr ?_; (case hd => rfl); (case hg => rfl); (case hr => first | (go_simp; done) | (go_simp; rfl)); intro g10 hg10 w11 hbox hb11; have S11 := S10.old hb11; have HO3 := Aside0.mk (Kd.R_below HO2.out hb11); have hne1 : g2 ≠ g10 := (by rw [hg10]; exact Nat.ne_of_lt (blk_lt S10.res)); have hne2 : g10 ≠ g2 := hne1.symm; have hc0 : w11.cell? ⟨g10, 0, none⟩ = some (.bool false) := (blk_cell hbox 0).trans rfl; have hc1 : w11.cell? ⟨g10, 1, none⟩ = some (.slice none 0 0) := (blk_cell hbox 1).trans rfl; have hc2 : w11.cell? ⟨g10, 2, none⟩ = some (.int .i64 0) := (blk_cell hbox 2).trans rfl; have hf0 := blk_frozen hbox 0; have hf1 := blk_frozen hbox 1; have hf2 := blk_frozen hbox 2; have hd0 : w11.cell? ⟨g2, 0, none⟩ = some (.bool false) := (blk_cell S11.res 0).trans rfl; have hd1 : w11.cell? ⟨g2, 1, none⟩ = some (.slice none 0 0) := (blk_cell S11.res 1).trans rfl; have hd2 : w11.cell? ⟨g2, 2, none⟩ = some (.int .i64 0) := (blk_cell S11.res 2).trans rfl; have he0 := blk_frozen S11.res 0; have he1 := blk_frozen S11.res 1; have he2 := blk_frozen S11.res 2; have G10 := Aside0.mk (show w.heap.size ≤ g10 by have := S10.below.size; omega); have BK10 := Aside0.mk hbox; clear hbox hb11 hg10) | fail)
              all_goals exact ⟨rfl, rfl, HBB _ (HBB _ (HBB _ S11.below _ G10.out _ _) _ G10.out _ _) _ G10.out _ _⟩
            · go_wp2_with (first | ((with_reducible refine gate_dst (N := 10) rfl ?_); refine box_event ?hg (N := 10) ?hd (cs := #[.bool false, .slice none 0 0, .int .i64 0]) (t := 25) ?hr ?_; (case hd => rfl); (case hg => rfl); (case hr => first | (go_simp; done) | (go_simp; rfl)); intro g10 hg10 w11 hbox hb11; have S11 := S10.old hb11; have HO3 := Aside0.mk (Kd.R_below HO2.out hb11); have hne1 : g2 ≠ g10 := (by rw [hg10]; exact Nat.ne_of_lt (blk_lt S10.res)); have hne2 : g10 ≠ g2 := hne1.symm; have hc0 : w11.cell? ⟨g10, 0, none⟩ = some (.bool false) := (blk_cell hbox 0).trans rfl; have hc1 : w11.cell? ⟨g10, 1, none⟩ = some (.slice none 0 0) := (blk_cell hbox 1).trans rfl; have hc2 : w11.cell? ⟨g10, 2, none⟩ = some (.int .i64 0) := (blk_cell hbox 2).trans rfl; have hf0 := blk_frozen hbox 0; have hf1 := blk_frozen hbox 1; have hf2 := blk_frozen hbox 2; have hd0 : w11.cell? ⟨g2, 0, none⟩ = some (.bool false) := (blk_cell S11.res 0).trans rfl; have hd1 : w11.cell? ⟨g2, 1, none⟩ = some (.slice none 0 0) := (blk_cell S11.res 1).trans rfl; have hd2 : w11.cell? ⟨g2, 2, none⟩ = some (.int .i64 0) := (blk_cell S11.res 2).trans rfl; have he0 := blk_frozen S11.res 0; have he1 := blk_frozen S11.res 1; have he2 := blk_frozen S11.res 2; have G10 := Aside0.mk (show w.heap.size ≤ g10 by have := S10.below.size; omega); have BK10 := Aside0.mk hbox; clear hbox hb11 hg10) | fail)
              all_goals exact ⟨rfl, rfl, HBB _ (HBB _ (HBB _ S11.below _ G10.out _ _) _ G10.out _ _) _ G10.out _ _⟩
            · go_wp2_with (first | ((with_reducible refine gate_dst (N := 10) rfl ?_); refine box_event ?hg (N := 10) ?hd (cs := #[.bool false, .slice none 0 0, .int .i64 0]) (t := 25) ?hr ?_; (case hd => rfl); (case hg => rfl); (case hr => first | (go_simp; done) | (go_simp; rfl)); intro g10 hg10 w11 hbox hb11; have S11 := S10.old hb11; have HO3 := Aside0.mk (Kd.R_below HO2.out hb11); have hne1 : g2 ≠ g10 := (by rw [hg10]; exact Nat.ne_of_lt (blk_lt S10.res)); have hne2 : g10 ≠ g2 := hne1.symm; have hc0 : w11.cell? ⟨g10, 0, none⟩ = some (.bool false) := (blk_cell hbox 0).trans rfl; have hc1 : w11.cell? ⟨g10, 1, none⟩ = some (.slice none 0 0) := (blk_cell hbox 1).trans rfl; have hc2 : w11.cell? ⟨g10, 2, none⟩ = some (.int .i64 0) := (blk_cell hbox 2).trans rfl; have hf0 := blk_frozen hbox 0; have hf1 := blk_frozen hbox 1; have hf2 := blk_frozen hbox 2; have hd0 : w11.cell? ⟨g2, 0, none⟩ = some (.bool false) := (blk_cell S11.res 0).trans rfl; have hd1 : w11.cell? ⟨g2, 1, none⟩ = some (.slice none 0 0) := (blk_cell S11.res 1).trans rfl; have hd2 : w11.cell? ⟨g2, 2, none⟩ = some (.int .i64 0) := (blk_cell S11.res 2).trans rfl; have he0 := blk_frozen S11.res 0; have he1 := blk_frozen S11.res 1; have he2 := blk_frozen S11.res 2; have G10 := Aside0.mk (show w.heap.size ≤ g10 by have := S10.below.size; omega); have BK10 := Aside0.mk hbox; clear hbox hb11 hg10) | fail)
              all_goals exact ⟨rfl, rfl, HBB _ (HBB _ (HBB _ S11.below _ G10.out _ _) _ G10.out _ _) _ G10.out _ _⟩
          · rw [if_neg hbad] at H
            simp only [Option.some.injEq, Prod.mk.injEq] at H
            obtain ⟨rfl, rfl, rfl, rfl⟩ := H
            clear HH
            have HBB : ∀ W : World, Below w.heap.size w W → ∀ g : Nat, w.heap.size ≤ g → ∀ (n : Nat) (v : Value), Below w.heap.size w (W.setCell ⟨g, n, none⟩ v) := fun W h g hg n v => h.setCell hg v
            have hq4 : q4 = true := by
              cases q4 with
              | false => exact absurd (Or.inl rfl) hbad
              | true => rfl
            subst hq4
            by_cases hq : 0 < q2.length
            · have hp1 : (p == 1048576) = false := beq_eq_false_iff_ne.2 fun h => hbad (.inr ⟨hq, .inl h⟩)
              have hp2 : (p == -1048576) = false := beq_eq_false_iff_ne.2 fun h => hbad (.inr ⟨hq, .inr h⟩)
              clear hbad
              go_wp2_with (first | ((with_reducible refine gate_dst (N := 10) rfl ?_); refine box_event ?hg (N := 10) ?hd (cs := #[.bool false, .slice none 0 0, .int .i64 0]) (t := 25) ?hr ?_; (case hd => rfl); (case hg => rfl); (case hr => first | (go_simp; done) | (go_simp; rfl)); intro g10 hg10 w11 hbox hb11; have S11 := S10.old hb11; have HO3 := Aside0.mk (Kd.R_below HO2.out hb11); have hne1 : g2 ≠ g10 := (by rw [hg10]; exact Nat.ne_of_lt (blk_lt S10.res)); have hne2 : g10 ≠ g2 := hne1.symm; have hc0 : w11.cell? ⟨g10, 0, none⟩ = some (.bool false) := (blk_cell hbox 0).trans rfl; have hc1 : w11.cell? ⟨g10, 1, none⟩ = some (.slice none 0 0) := (blk_cell hbox 1).trans rfl; have hc2 : w11.cell? ⟨g10, 2, none⟩ = some (.int .i64 0) := (blk_cell hbox 2).trans rfl; have hf0 := blk_frozen hbox 0; have hf1 := blk_frozen hbox 1; have hf2 := blk_frozen hbox 2; have hd0 : w11.cell? ⟨g2, 0, none⟩ = some (.bool false) := (blk_cell S11.res 0).trans rfl; have hd1 : w11.cell? ⟨g2, 1, none⟩ = some (.slice none 0 0) := (blk_cell S11.res 1).trans rfl; have hd2 : w11.cell? ⟨g2, 2, none⟩ = some (.int .i64 0) := (blk_cell S11.res 2).trans rfl; have he0 := blk_frozen S11.res 0; have he1 := blk_frozen S11.res 1; have he2 := blk_frozen S11.res 2; have G10 := Aside0.mk (show w.heap.size ≤ g10 by have := S10.below.size; omega); have BK10 := Aside0.mk hbox; clear hbox hb11 hg10) | fail)
              refine bodyPost_ret (results_cell_row rfl _ _ g2 25 #[.bool q1, .slice Aq q2.length cq, .int .i64 q3] (0, 0) _ rfl (by refine blk_put (cs := #[.bool q1, .slice Aq q2.length cq, .int .i64 0]) ?_ 2 _ rfl; refine blk_put (cs := #[.bool q1, .slice none 0 0, .int .i64 0]) ?_ 1 _ rfl; refine blk_put (cs := #[.bool false, .slice none 0 0, .int .i64 0]) ?_ 0 _ rfl; rw [Below.heap_setCell _ _ _ _ hne1, Below.heap_setCell _ _ _ _ hne1, Below.heap_setCell _ _ _ _ hne1]; exact S11.res) hu25 rfl (by kernel_rfl)) rfl ?_
              have HR := Kd.R_types (Kd.R_types HO3.out BK10.out (by decide)) S11.res (by decide)
              first | refine .inr ⟨rfl, _, rfl, ?_, HBB _ (HBB _ (HBB _ (HBB _ (HBB _ (HBB _ S11.below _ G10.out _ _) _ G10.out _ _) _ G10.out _ _) _ S11.le _ _) _ S11.le _ _) _ S11.le _ _⟩ | refine ⟨_, rfl, ?_, HBB _ (HBB _ (HBB _ (HBB _ (HBB _ (HBB _ S11.below _ G10.out _ _) _ G10.out _ _) _ G10.out _ _) _ S11.le _ _) _ S11.le _ _) _ S11.le _ _⟩
              exact Kd.R_lower (Kd.R_mono (Kd.R_far (p := ⟨g2, 2, none⟩) (Kd.R_far (p := ⟨g2, 1, none⟩) (Kd.R_far (p := ⟨g2, 0, none⟩) (Kd.R_far (p := ⟨g10, 2, none⟩) (Kd.R_far (p := ⟨g10, 1, none⟩) (Kd.R_far (p := ⟨g10, 0, none⟩) HR (fun _ hk => hk.1.2) _) (fun _ hk => hk.1.2) _) (fun _ hk => hk.1.2) _) (fun _ hk => hk.2) _) (fun _ hk => hk.2) _) (fun _ hk => hk.2) _) (fun _ hk => trivial)) S9.below.size
            · clear hbad
              go_wp2_with (first | ((with_reducible refine gate_dst (N := 10) rfl ?_); refine box_event ?hg (N := 10) ?hd (cs := #[.bool false, .slice none 0 0, .int .i64 0]) (t := 25) ?hr ?_; (case hd => rfl); (case hg => rfl); (case hr => first | (go_simp; done) | (go_simp; rfl)); intro g10 hg10 w11 hbox hb11; have S11 := S10.old hb11; have HO3 := Aside0.mk (Kd.R_below HO2.out hb11); have hne1 : g2 ≠ g10 := (by rw [hg10]; exact Nat.ne_of_lt (blk_lt S10.res)); have hne2 : g10 ≠ g2 := hne1.symm; have hc0 : w11.cell? ⟨g10, 0, none⟩ = some (.bool false) := (blk_cell hbox 0).trans rfl; have hc1 : w11.cell? ⟨g10, 1, none⟩ = some (.slice none 0 0) := (blk_cell hbox 1).trans rfl; have hc2 : w11.cell? ⟨g10, 2, none⟩ = some (.int .i64 0) := (blk_cell hbox 2).trans rfl; have hf0 := blk_frozen hbox 0; have hf1 := blk_frozen hbox 1; have hf2 := blk_frozen hbox 2; have hd0 : w11.cell? ⟨g2, 0, none⟩ = some (.bool false) := (blk_cell S11.res 0).trans rfl; have hd1 : w11.cell? ⟨g2, 1, none⟩ = some (.slice none 0 0) := (blk_cell S11.res 1).trans rfl; have hd2 : w11.cell? ⟨g2, 2, none⟩ = some (.int .i64 0) := (blk_cell S11.res 2).trans rfl; have he0 := blk_frozen S11.res 0; have he1 := blk_frozen S11.res 1; have he2 := blk_frozen S11.res 2; have G10 := Aside0.mk (show w.heap.size ≤ g10 by have := S10.below.size; omega); have BK10 := Aside0.mk hbox; clear hbox hb11 hg10) | fail)
              refine bodyPost_ret (results_cell_row rfl _ _ g2 25 #[.bool q1, .slice Aq q2.length cq, .int .i64 q3] (0, 0) _ rfl (by refine blk_put (cs := #[.bool q1, .slice Aq q2.length cq, .int .i64 0]) ?_ 2 _ rfl; refine blk_put (cs := #[.bool q1, .slice none 0 0, .int .i64 0]) ?_ 1 _ rfl; refine blk_put (cs := #[.bool false, .slice none 0 0, .int .i64 0]) ?_ 0 _ rfl; rw [Below.heap_setCell _ _ _ _ hne1, Below.heap_setCell _ _ _ _ hne1, Below.heap_setCell _ _ _ _ hne1]; exact S11.res) hu25 rfl (by kernel_rfl)) rfl ?_
              have HR := Kd.R_types (Kd.R_types HO3.out BK10.out (by decide)) S11.res (by decide)
              first | refine .inr ⟨rfl, _, rfl, ?_, HBB _ (HBB _ (HBB _ (HBB _ (HBB _ (HBB _ S11.below _ G10.out _ _) _ G10.out _ _) _ G10.out _ _) _ S11.le _ _) _ S11.le _ _) _ S11.le _ _⟩ | refine ⟨_, rfl, ?_, HBB _ (HBB _ (HBB _ (HBB _ (HBB _ (HBB _ S11.below _ G10.out _ _) _ G10.out _ _) _ G10.out _ _) _ S11.le _ _) _ S11.le _ _) _ S11.le _ _⟩
              exact Kd.R_lower (Kd.R_mono (Kd.R_far (p := ⟨g2, 2, none⟩) (Kd.R_far (p := ⟨g2, 1, none⟩) (Kd.R_far (p := ⟨g2, 0, none⟩) (Kd.R_far (p := ⟨g10, 2, none⟩) (Kd.R_far (p := ⟨g10, 1, none⟩) (Kd.R_far (p := ⟨g10, 0, none⟩) HR (fun _ hk => hk.1.2) _) (fun _ hk => hk.1.2) _) (fun _ hk => hk.1.2) _) (fun _ hk => hk.2) _) (fun _ hk => hk.2) _) (fun _ hk => hk.2) _) (fun _ hk => trivial)) S9.below.size
        · have hE : numE neg (d ++ frac) (frac.size : Int) x2 = none := by unfold numE; rw [hx]; exact if_neg hy
          have H := HH.out
          rw [hE] at H
          simp only [Option.some.injEq, Prod.mk.injEq] at H
          obtain ⟨rfl, rfl, rfl, rfl⟩ := H
          clear HH hE hx
          have hy2 : y.toList ≠ [] := by
            intro h
            rw [Lib.toList_data] at h
            have := data_length y
            rw [h] at this
            exact hy this.symm
          have hy3 : y.toList.isEmpty = false := by rw [List.isEmpty_eq_false_iff]; exact hy2
          clear hy
          go_wp2_with fail
          first
            | exact ⟨rfl, rfl, S8.below⟩
            | exact ⟨rfl, .inl ⟨rfl, rfl, rfl, .inl rfl, rfl, S8.below⟩⟩
      · rw [Bool.not_eq_true] at hpt
        rw [hpt]
        have HQ := HH.out
        rw [HP.out, if_neg (by rw [hpt]; decide)] at HQ
        have HH := Aside0.mk HQ
        clear HQ HP hpt
        have hs2 := hasR_size ⟨#[46]⟩ x1
        generalize hasR ⟨#[46]⟩ x1 = x2 at *
        go_wp2_with fail
        refine (exponent_st S6 (by omega)).mono ?_
        rintro e w8 (⟨hx, rfl, b8⟩ | ⟨p, y, hx, rfl, S8⟩)
        · go_wp2_with fail
          have H := HH.out
          have hE : numE neg (d ++ ⟨#[]⟩) 0 x2 = none := by unfold numE; rw [hx]
          rw [hE] at H
          simp only [Option.some.injEq, Prod.mk.injEq] at H
          obtain ⟨rfl, rfl, rfl, rfl⟩ := H
          exact ⟨rfl, .inl ⟨rfl, rfl, rfl, .inl rfl, rfl, b8⟩⟩
        have hc8 := S8.rdr.cell
        by_cases hy : y.size = 0
        · have hE : numE neg (d ++ ⟨#[]⟩) 0 x2 = some (neg, (d ++ ⟨#[]⟩), 0, p) := by unfold numE; rw [hx]; exact if_pos hy
          have H := HH.out
          rw [hE] at H
          replace H : numK k neg (d ++ ⟨#[]⟩) 0 p = some (r1, r2, r3, r4) := H
          clear HH hE
          unfold numK at H
          obtain ⟨⟨m1, ok1⟩, A1, H⟩ := Option.bind_eq_some_iff.mp H
          obtain ⟨⟨q1, q2, q3, q4⟩, A2, H⟩ := Option.bind_eq_some_iff.mp H
          replace A2 : num_Make.f k neg m1 (wrap64 (p - 0)) = some (q1, q2, q3, q4) := A2
          try rw [Int.sub_zero] at A2
          replace H : (if q4 = false ∨ (0 < q2.length ∧ (p = 1048576 ∨ p = -1048576)) then some (false, [], 0, 4) else some (q1, q2, q3, 0)) = some (r1, r2, r3, r4) := H
          have HA1 := Aside0.mk A1
          have HA2 := Aside0.mk A2
          have HH := Aside0.mk H
          clear A1 A2 H hx
          obtain rfl : y = ⟨#[]⟩ := by
            apply ByteArray.ext
            exact Array.eq_empty_of_size_eq_zero hy
          clear hy
          go_wp2_with fail
          refine (nat_Parse.calls k _ m1 ok1 _ HA1.out).mono ?_
          rintro e w9 ⟨v, rfl, ho, hb⟩
          obtain ⟨Ao, co, rfl⟩ := Kd.R_slice ho
          have HO := Aside0.mk ho
          have S9 := S8.old hb
          clear ho hb hc8
          go_wp2_with fail
          refine (num_Make.calls k neg Ao co m1 _ q1 q2 q3 q4 _ (Kd.R_reads' HO.out).2.2 (Kd.R_reads' HO.out).2.1 HA2.out).mono ?_
          rintro e w10 ⟨v, rfl, ho, hb⟩
          obtain ⟨Aq, cq, rfl⟩ := Kd.R_slice ho
          have HO2 := Aside0.mk ho
          have S10 := S9.old hb
          clear ho hb HO HA2 HA1
          have H := HH.out
          by_cases hbad : q4 = false ∨ (0 < q2.length ∧ (p = 1048576 ∨ p = -1048576))
          · rw [if_pos hbad] at H
            simp only [Option.some.injEq, Prod.mk.injEq] at H
            obtain ⟨rfl, rfl, rfl, rfl⟩ := H
            clear HH
            have HBB : ∀ W : World, Below w.heap.size w W → ∀ g : Nat, w.heap.size ≤ g → ∀ (n : Nat) (v : Value), Below w.heap.size w (W.setCell ⟨g, n, none⟩ v) := fun W h g hg n v => h.setCell hg v
            rcases hbad with rfl | ⟨hq, rfl | rfl⟩
            · go_wp2_with (first | ((with_reducible refine gate_dst (N := 10) rfl ?_); refine box_event ?hg (N := 10) ?hd (cs := #[.bool false, .slice none 0 0, .int .i64 0]) (t := 25) ?hr ?_; (case hd => rfl); (case hg => rfl); (case hr => first | (go_simp; done) | (go_simp; rfl)); intro g10 hg10 w11 hbox hb11; have S11 := S10.old hb11; have HO3 := Aside0.mk (Kd.R_below HO2.out hb11); have hne1 : g2 ≠ g10 := (by rw [hg10]; exact Nat.ne_of_lt (blk_lt S10.res)); have hne2 : g10 ≠ g2 := hne1.symm; have hc0 : w11.cell? ⟨g10, 0, none⟩ = some (.bool false) := (blk_cell hbox 0).trans rfl; have hc1 : w11.cell? ⟨g10, 1, none⟩ = some (.slice none 0 0) := (blk_cell hbox 1).trans rfl; have hc2 : w11.cell? ⟨g10, 2, none⟩ = some (.int .i64 0) := (blk_cell hbox 2).trans rfl; have hf0 := blk_frozen hbox 0; have hf1 := blk_frozen hbox 1; have hf2 := blk_frozen hbox 2; have hd0 : w11.cell? ⟨g2, 0, none⟩ = some (.bool false) := (blk_cell S11.res 0).trans rfl; have hd1 : w11.cell? ⟨g2, 1, none⟩ = some (.slice none 0 0) := (blk_cell S11.res 1).trans rfl; have hd2 : w11.cell? ⟨g2, 2, none⟩ = some (.int .i64 0) := (blk_cell S11.res 2).trans rfl; have he0 := blk_frozen S11.res 0; have he1 := blk_frozen S11.res 1; have he2 := blk_frozen S11.res 2; have G10 := Aside0.mk (show w.heap.size ≤ g10 by have := S10.below.size; omega); have BK10 := Aside0.mk hbox; clear hbox hb11 hg10) | fail)
              all_goals exact ⟨rfl, rfl, HBB _ (HBB _ (HBB _ S11.below _ G10.out _ _) _ G10.out _ _) _ G10.out _ _⟩
            · go_wp2_with (first | ((with_reducible refine gate_dst (N := 10) rfl ?_); refine box_event ?hg (N := 10) ?hd (cs := #[.bool false, .slice none 0 0, .int .i64 0]) (t := 25) ?hr ?_; (case hd => rfl); (case hg => rfl); (case hr => first | (go_simp; done) | (go_simp; rfl)); intro g10 hg10 w11 hbox hb11; have S11 := S10.old hb11; have HO3 := Aside0.mk (Kd.R_below HO2.out hb11); have hne1 : g2 ≠ g10 := (by rw [hg10]; exact Nat.ne_of_lt (blk_lt S10.res)); have hne2 : g10 ≠ g2 := hne1.symm; have hc0 : w11.cell? ⟨g10, 0, none⟩ = some (.bool false) := (blk_cell hbox 0).trans rfl; have hc1 : w11.cell? ⟨g10, 1, none⟩ = some (.slice none 0 0) := (blk_cell hbox 1).trans rfl; have hc2 : w11.cell? ⟨g10, 2, none⟩ = some (.int .i64 0) := (blk_cell hbox 2).trans rfl; have hf0 := blk_frozen hbox 0; have hf1 := blk_frozen hbox 1; have hf2 := blk_frozen hbox 2; have hd0 : w11.cell? ⟨g2, 0, none⟩ = some (.bool false) := (blk_cell S11.res 0).trans rfl; have hd1 : w11.cell? ⟨g2, 1, none⟩ = some (.slice none 0 0) := (blk_cell S11.res 1).trans rfl; have hd2 : w11.cell? ⟨g2, 2, none⟩ = some (.int .i64 0) := (blk_cell S11.res 2).trans rfl; have he0 := blk_frozen S11.res 0; have he1 := blk_frozen S11.res 1; have he2 := blk_frozen S11.res 2; have G10 := Aside0.mk (show w.heap.size ≤ g10 by have := S10.below.size; omega); have BK10 := Aside0.mk hbox; clear hbox hb11 hg10) | fail)
              all_goals exact ⟨rfl, rfl, HBB _ (HBB _ (HBB _ S11.below _ G10.out _ _) _ G10.out _ _) _ G10.out _ _⟩
            · go_wp2_with (first | ((with_reducible refine gate_dst (N := 10) rfl ?_); refine box_event ?hg (N := 10) ?hd (cs := #[.bool false, .slice none 0 0, .int .i64 0]) (t := 25) ?hr ?_; (case hd => rfl); (case hg => rfl); (case hr => first | (go_simp; done) | (go_simp; rfl)); intro g10 hg10 w11 hbox hb11; have S11 := S10.old hb11; have HO3 := Aside0.mk (Kd.R_below HO2.out hb11); have hne1 : g2 ≠ g10 := (by rw [hg10]; exact Nat.ne_of_lt (blk_lt S10.res)); have hne2 : g10 ≠ g2 := hne1.symm; have hc0 : w11.cell? ⟨g10, 0, none⟩ = some (.bool false) := (blk_cell hbox 0).trans rfl; have hc1 : w11.cell? ⟨g10, 1, none⟩ = some (.slice none 0 0) := (blk_cell hbox 1).trans rfl; have hc2 : w11.cell? ⟨g10, 2, none⟩ = some (.int .i64 0) := (blk_cell hbox 2).trans rfl; have hf0 := blk_frozen hbox 0; have hf1 := blk_frozen hbox 1; have hf2 := blk_frozen hbox 2; have hd0 : w11.cell? ⟨g2, 0, none⟩ = some (.bool false) := (blk_cell S11.res 0).trans rfl; have hd1 : w11.cell? ⟨g2, 1, none⟩ = some (.slice none 0 0) := (blk_cell S11.res 1).trans rfl; have hd2 : w11.cell? ⟨g2, 2, none⟩ = some (.int .i64 0) := (blk_cell S11.res 2).trans rfl; have he0 := blk_frozen S11.res 0; have he1 := blk_frozen S11.res 1; have he2 := blk_frozen S11.res 2; have G10 := Aside0.mk (show w.heap.size ≤ g10 by have := S10.below.size; omega); have BK10 := Aside0.mk hbox; clear hbox hb11 hg10) | fail)
              all_goals exact ⟨rfl, rfl, HBB _ (HBB _ (HBB _ S11.below _ G10.out _ _) _ G10.out _ _) _ G10.out _ _⟩
          · rw [if_neg hbad] at H
            simp only [Option.some.injEq, Prod.mk.injEq] at H
            obtain ⟨rfl, rfl, rfl, rfl⟩ := H
            clear HH
            have HBB : ∀ W : World, Below w.heap.size w W → ∀ g : Nat, w.heap.size ≤ g → ∀ (n : Nat) (v : Value), Below w.heap.size w (W.setCell ⟨g, n, none⟩ v) := fun W h g hg n v => h.setCell hg v
            have hq4 : q4 = true := by
              cases q4 with
              | false => exact absurd (Or.inl rfl) hbad
              | true => rfl
            subst hq4
            by_cases hq : 0 < q2.length
            · have hp1 : (p == 1048576) = false := beq_eq_false_iff_ne.2 fun h => hbad (.inr ⟨hq, .inl h⟩)
              have hp2 : (p == -1048576) = false := beq_eq_false_iff_ne.2 fun h => hbad (.inr ⟨hq, .inr h⟩)
              clear hbad
              go_wp2_with (first | ((with_reducible refine gate_dst (N := 10) rfl ?_); refine box_event ?hg (N := 10) ?hd (cs := #[.bool false, .slice none 0 0, .int .i64 0]) (t := 25) ?hr ?_; (case hd => rfl); (case hg => rfl); (case hr => first | (go_simp; done) | (go_simp; rfl)); intro g10 hg10 w11 hbox hb11; have S11 := S10.old hb11; have HO3 := Aside0.mk (Kd.R_below HO2.out hb11); have hne1 : g2 ≠ g10 := (by rw [hg10]; exact Nat.ne_of_lt (blk_lt S10.res)); have hne2 : g10 ≠ g2 := hne1.symm; have hc0 : w11.cell? ⟨g10, 0, none⟩ = some (.bool false) := (blk_cell hbox 0).trans rfl; have hc1 : w11.cell? ⟨g10, 1, none⟩ = some (.slice none 0 0) := (blk_cell hbox 1).trans rfl; have hc2 : w11.cell? ⟨g10, 2, none⟩ = some (.int .i64 0) := (blk_cell hbox 2).trans rfl; have hf0 := blk_frozen hbox 0; have hf1 := blk_frozen hbox 1; have hf2 := blk_frozen hbox 2; have hd0 : w11.cell? ⟨g2, 0, none⟩ = some (.bool false) := (blk_cell S11.res 0).trans rfl; have hd1 : w11.cell? ⟨g2, 1, none⟩ = some (.slice none 0 0) := (blk_cell S11.res 1).trans rfl; have hd2 : w11.cell? ⟨g2, 2, none⟩ = some (.int .i64 0) := (blk_cell S11.res 2).trans rfl; have he0 := blk_frozen S11.res 0; have he1 := blk_frozen S11.res 1; have he2 := blk_frozen S11.res 2; have G10 := Aside0.mk (show w.heap.size ≤ g10 by have := S10.below.size; omega); have BK10 := Aside0.mk hbox; clear hbox hb11 hg10) | fail)
              refine bodyPost_ret (results_cell_row rfl _ _ g2 25 #[.bool q1, .slice Aq q2.length cq, .int .i64 q3] (0, 0) _ rfl (by refine blk_put (cs := #[.bool q1, .slice Aq q2.length cq, .int .i64 0]) ?_ 2 _ rfl; refine blk_put (cs := #[.bool q1, .slice none 0 0, .int .i64 0]) ?_ 1 _ rfl; refine blk_put (cs := #[.bool false, .slice none 0 0, .int .i64 0]) ?_ 0 _ rfl; rw [Below.heap_setCell _ _ _ _ hne1, Below.heap_setCell _ _ _ _ hne1, Below.heap_setCell _ _ _ _ hne1]; exact S11.res) hu25 rfl (by kernel_rfl)) rfl ?_
              have HR := Kd.R_types (Kd.R_types HO3.out BK10.out (by decide)) S11.res (by decide)
              first | refine .inr ⟨rfl, _, rfl, ?_, HBB _ (HBB _ (HBB _ (HBB _ (HBB _ (HBB _ S11.below _ G10.out _ _) _ G10.out _ _) _ G10.out _ _) _ S11.le _ _) _ S11.le _ _) _ S11.le _ _⟩ | refine ⟨_, rfl, ?_, HBB _ (HBB _ (HBB _ (HBB _ (HBB _ (HBB _ S11.below _ G10.out _ _) _ G10.out _ _) _ G10.out _ _) _ S11.le _ _) _ S11.le _ _) _ S11.le _ _⟩
              exact Kd.R_lower (Kd.R_mono (Kd.R_far (p := ⟨g2, 2, none⟩) (Kd.R_far (p := ⟨g2, 1, none⟩) (Kd.R_far (p := ⟨g2, 0, none⟩) (Kd.R_far (p := ⟨g10, 2, none⟩) (Kd.R_far (p := ⟨g10, 1, none⟩) (Kd.R_far (p := ⟨g10, 0, none⟩) HR (fun _ hk => hk.1.2) _) (fun _ hk => hk.1.2) _) (fun _ hk => hk.1.2) _) (fun _ hk => hk.2) _) (fun _ hk => hk.2) _) (fun _ hk => hk.2) _) (fun _ hk => trivial)) S9.below.size
            · clear hbad
              go_wp2_with (first | ((with_reducible refine gate_dst (N := 10) rfl ?_); refine box_event ?hg (N := 10) ?hd (cs := #[.bool false, .slice none 0 0, .int .i64 0]) (t := 25) ?hr ?_; (case hd => rfl); (case hg => rfl); (case hr => first | (go_simp; done) | (go_simp; rfl)); intro g10 hg10 w11 hbox hb11; have S11 := S10.old hb11; have HO3 := Aside0.mk (Kd.R_below HO2.out hb11); have hne1 : g2 ≠ g10 := (by rw [hg10]; exact Nat.ne_of_lt (blk_lt S10.res)); have hne2 : g10 ≠ g2 := hne1.symm; have hc0 : w11.cell? ⟨g10, 0, none⟩ = some (.bool false) := (blk_cell hbox 0).trans rfl; have hc1 : w11.cell? ⟨g10, 1, none⟩ = some (.slice none 0 0) := (blk_cell hbox 1).trans rfl; have hc2 : w11.cell? ⟨g10, 2, none⟩ = some (.int .i64 0) := (blk_cell hbox 2).trans rfl; have hf0 := blk_frozen hbox 0; have hf1 := blk_frozen hbox 1; have hf2 := blk_frozen hbox 2; have hd0 : w11.cell? ⟨g2, 0, none⟩ = some (.bool false) := (blk_cell S11.res 0).trans rfl; have hd1 : w11.cell? ⟨g2, 1, none⟩ = some (.slice none 0 0) := (blk_cell S11.res 1).trans rfl; have hd2 : w11.cell? ⟨g2, 2, none⟩ = some (.int .i64 0) := (blk_cell S11.res 2).trans rfl; have he0 := blk_frozen S11.res 0; have he1 := blk_frozen S11.res 1; have he2 := blk_frozen S11.res 2; have G10 := Aside0.mk (show w.heap.size ≤ g10 by have := S10.below.size; omega); have BK10 := Aside0.mk hbox; clear hbox hb11 hg10) | fail)
              refine bodyPost_ret (results_cell_row rfl _ _ g2 25 #[.bool q1, .slice Aq q2.length cq, .int .i64 q3] (0, 0) _ rfl (by refine blk_put (cs := #[.bool q1, .slice Aq q2.length cq, .int .i64 0]) ?_ 2 _ rfl; refine blk_put (cs := #[.bool q1, .slice none 0 0, .int .i64 0]) ?_ 1 _ rfl; refine blk_put (cs := #[.bool false, .slice none 0 0, .int .i64 0]) ?_ 0 _ rfl; rw [Below.heap_setCell _ _ _ _ hne1, Below.heap_setCell _ _ _ _ hne1, Below.heap_setCell _ _ _ _ hne1]; exact S11.res) hu25 rfl (by kernel_rfl)) rfl ?_
              have HR := Kd.R_types (Kd.R_types HO3.out BK10.out (by decide)) S11.res (by decide)
              first | refine .inr ⟨rfl, _, rfl, ?_, HBB _ (HBB _ (HBB _ (HBB _ (HBB _ (HBB _ S11.below _ G10.out _ _) _ G10.out _ _) _ G10.out _ _) _ S11.le _ _) _ S11.le _ _) _ S11.le _ _⟩ | refine ⟨_, rfl, ?_, HBB _ (HBB _ (HBB _ (HBB _ (HBB _ (HBB _ S11.below _ G10.out _ _) _ G10.out _ _) _ G10.out _ _) _ S11.le _ _) _ S11.le _ _) _ S11.le _ _⟩
              exact Kd.R_lower (Kd.R_mono (Kd.R_far (p := ⟨g2, 2, none⟩) (Kd.R_far (p := ⟨g2, 1, none⟩) (Kd.R_far (p := ⟨g2, 0, none⟩) (Kd.R_far (p := ⟨g10, 2, none⟩) (Kd.R_far (p := ⟨g10, 1, none⟩) (Kd.R_far (p := ⟨g10, 0, none⟩) HR (fun _ hk => hk.1.2) _) (fun _ hk => hk.1.2) _) (fun _ hk => hk.1.2) _) (fun _ hk => hk.2) _) (fun _ hk => hk.2) _) (fun _ hk => hk.2) _) (fun _ hk => trivial)) S9.below.size
        · have hE : numE neg (d ++ ⟨#[]⟩) 0 x2 = none := by unfold numE; rw [hx]; exact if_neg hy
          have H := HH.out
          rw [hE] at H
          simp only [Option.some.injEq, Prod.mk.injEq] at H
          obtain ⟨rfl, rfl, rfl, rfl⟩ := H
          clear HH hE hx
          have hy2 : y.toList ≠ [] := by
            intro h
            rw [Lib.toList_data] at h
            have := data_length y
            rw [h] at this
            exact hy this.symm
          have hy3 : y.toList.isEmpty = false := by rw [List.isEmpty_eq_false_iff]; exact hy2
          clear hy
          go_wp2_with fail
          first
            | exact ⟨rfl, rfl, S8.below⟩
            | exact ⟨rfl, .inl ⟨rfl, rfl, rfl, .inl rfl, rfl, S8.below⟩⟩
    · go_wp2_with fail
      refine (has_st S5 _).mono ?_
      rintro e w6 ⟨rfl, S6⟩
      by_cases hpt : hasF ⟨#[46]⟩ x1 = true
      · rw [hpt]
        go_wp2_with fail
        refine (digits_st S6 (by have := hasR_size ⟨#[46]⟩ x1; omega)).mono ?_
        rintro e w7 (⟨hz, rfl, b7⟩ | ⟨hz, rfl, S7⟩)
        · go_wp2_with fail
          have H := HH.out
          rw [HP.out, if_pos hpt, if_pos hz] at H
          simp only [Option.some.injEq, Prod.mk.injEq] at H
          obtain ⟨rfl, rfl, rfl, rfl⟩ := H
          exact ⟨rfl, .inl ⟨rfl, rfl, rfl, .inl rfl, rfl, b7⟩⟩
        have HQ := HH.out
        rw [HP.out, if_pos hpt, if_neg hz] at HQ
        have HH := Aside0.mk HQ
        clear HQ HP hpt hz
        have hfm : (digF (hasR ⟨#[46]⟩ x1)).size ≤ 2000 := Nat.le_trans (digF_size _) (by have := hasR_size ⟨#[46]⟩ x1; omega)
        have hs2 : (digR (hasR ⟨#[46]⟩ x1)).size ≤ 2000 := Nat.le_trans (digR_size _) (by have := hasR_size ⟨#[46]⟩ x1; omega)
        generalize digF (hasR ⟨#[46]⟩ x1) = frac at *
        generalize digR (hasR ⟨#[46]⟩ x1) = x2 at *
        go_wp2_with fail
        refine (exponent_st S7 (by omega)).mono ?_
        rintro e w8 (⟨hx, rfl, b8⟩ | ⟨p, y, hx, rfl, S8⟩)
        · go_wp2_with fail
          have H := HH.out
          have hE : numE neg (d ++ frac) (frac.size : Int) x2 = none := by unfold numE; rw [hx]
          rw [hE] at H
          simp only [Option.some.injEq, Prod.mk.injEq] at H
          obtain ⟨rfl, rfl, rfl, rfl⟩ := H
          exact ⟨rfl, .inl ⟨rfl, rfl, rfl, .inl rfl, rfl, b8⟩⟩
        have hc8 := S8.rdr.cell
        by_cases hy : y.size = 0
        · have hE : numE neg (d ++ frac) (frac.size : Int) x2 = some (neg, (d ++ frac), (frac.size : Int), p) := by unfold numE; rw [hx]; exact if_pos hy
          have H := HH.out
          rw [hE] at H
          replace H : numK k neg (d ++ frac) (frac.size : Int) p = some (r1, r2, r3, r4) := H
          clear HH hE
          unfold numK at H
          obtain ⟨⟨m1, ok1⟩, A1, H⟩ := Option.bind_eq_some_iff.mp H
          obtain ⟨⟨q1, q2, q3, q4⟩, A2, H⟩ := Option.bind_eq_some_iff.mp H
          replace A2 : num_Make.f k neg m1 (wrap64 (p - (frac.size : Int))) = some (q1, q2, q3, q4) := A2
          try rw [Int.sub_zero] at A2
          replace H : (if q4 = false ∨ (0 < q2.length ∧ (p = 1048576 ∨ p = -1048576)) then some (false, [], 0, 4) else some (q1, q2, q3, 0)) = some (r1, r2, r3, r4) := H
          have HA1 := Aside0.mk A1
          have HA2 := Aside0.mk A2
          have HH := Aside0.mk H
          clear A1 A2 H hx
          obtain rfl : y = ⟨#[]⟩ := by
            apply ByteArray.ext
            exact Array.eq_empty_of_size_eq_zero hy
          clear hy
          go_wp2_with fail
          refine (nat_Parse.calls k _ m1 ok1 _ HA1.out).mono ?_
          rintro e w9 ⟨v, rfl, ho, hb⟩
          obtain ⟨Ao, co, rfl⟩ := Kd.R_slice ho
          have HO := Aside0.mk ho
          have S9 := S8.old hb
          clear ho hb hc8
          go_wp2_with fail
          refine (num_Make.calls k neg Ao co m1 _ q1 q2 q3 q4 _ (Kd.R_reads' HO.out).2.2 (Kd.R_reads' HO.out).2.1 HA2.out).mono ?_
          rintro e w10 ⟨v, rfl, ho, hb⟩
          obtain ⟨Aq, cq, rfl⟩ := Kd.R_slice ho
          have HO2 := Aside0.mk ho
          have S10 := S9.old hb
          clear ho hb HO HA2 HA1
          have H := HH.out
          by_cases hbad : q4 = false ∨ (0 < q2.length ∧ (p = 1048576 ∨ p = -1048576))
          · rw [if_pos hbad] at H
            simp only [Option.some.injEq, Prod.mk.injEq] at H
            obtain ⟨rfl, rfl, rfl, rfl⟩ := H
            clear HH
            have HBB : ∀ W : World, Below w.heap.size w W → ∀ g : Nat, w.heap.size ≤ g → ∀ (n : Nat) (v : Value), Below w.heap.size w (W.setCell ⟨g, n, none⟩ v) := fun W h g hg n v => h.setCell hg v
            rcases hbad with rfl | ⟨hq, rfl | rfl⟩
            · go_wp2_with (first | ((with_reducible refine gate_dst (N := 10) rfl ?_); refine box_event ?hg (N := 10) ?hd (cs := #[.bool false, .slice none 0 0, .int .i64 0]) (t := 25) ?hr ?_; (case hd => rfl); (case hg => rfl); (case hr => first | (go_simp; done) | (go_simp; rfl)); intro g10 hg10 w11 hbox hb11; have S11 := S10.old hb11; have HO3 := Aside0.mk (Kd.R_below HO2.out hb11); have hne1 : g2 ≠ g10 := (by rw [hg10]; exact Nat.ne_of_lt (blk_lt S10.res)); have hne2 : g10 ≠ g2 := hne1.symm; have hc0 : w11.cell? ⟨g10, 0, none⟩ = some (.bool false) := (blk_cell hbox 0).trans rfl; have hc1 : w11.cell? ⟨g10, 1, none⟩ = some (.slice none 0 0) := (blk_cell hbox 1).trans rfl; have hc2 : w11.cell? ⟨g10, 2, none⟩ = some (.int .i64 0) := (blk_cell hbox 2).trans rfl; have hf0 := blk_frozen hbox 0; have hf1 := blk_frozen hbox 1; have hf2 := blk_frozen hbox 2; have hd0 : w11.cell? ⟨g2, 0, none⟩ = some (.bool false) := (blk_cell S11.res 0).trans rfl; have hd1 : w11.cell? ⟨g2, 1, none⟩ = some (.slice none 0 0) := (blk_cell S11.res 1).trans rfl; have hd2 : w11.cell? ⟨g2, 2, none⟩ = some (.int .i64 0) := (blk_cell S11.res 2).trans rfl; have he0 := blk_frozen S11.res 0; have he1 := blk_frozen S11.res 1; have he2 := blk_frozen S11.res 2; have G10 := Aside0.mk (show w.heap.size ≤ g10 by have := S10.below.size; omega); have BK10 := Aside0.mk hbox; clear hbox hb11 hg10) | fail)
              all_goals exact ⟨rfl, rfl, HBB _ (HBB _ (HBB _ S11.below _ G10.out _ _) _ G10.out _ _) _ G10.out _ _⟩
            · go_wp2_with (first | ((with_reducible refine gate_dst (N := 10) rfl ?_); refine box_event ?hg (N := 10) ?hd (cs := #[.bool false, .slice none 0 0, .int .i64 0]) (t := 25) ?hr ?_; (case hd => rfl); (case hg => rfl); (case hr => first | (go_simp; done) | (go_simp; rfl)); intro g10 hg10 w11 hbox hb11; have S11 := S10.old hb11; have HO3 := Aside0.mk (Kd.R_below HO2.out hb11); have hne1 : g2 ≠ g10 := (by rw [hg10]; exact Nat.ne_of_lt (blk_lt S10.res)); have hne2 : g10 ≠ g2 := hne1.symm; have hc0 : w11.cell? ⟨g10, 0, none⟩ = some (.bool false) := (blk_cell hbox 0).trans rfl; have hc1 : w11.cell? ⟨g10, 1, none⟩ = some (.slice none 0 0) := (blk_cell hbox 1).trans rfl; have hc2 : w11.cell? ⟨g10, 2, none⟩ = some (.int .i64 0) := (blk_cell hbox 2).trans rfl; have hf0 := blk_frozen hbox 0; have hf1 := blk_frozen hbox 1; have hf2 := blk_frozen hbox 2; have hd0 : w11.cell? ⟨g2, 0, none⟩ = some (.bool false) := (blk_cell S11.res 0).trans rfl; have hd1 : w11.cell? ⟨g2, 1, none⟩ = some (.slice none 0 0) := (blk_cell S11.res 1).trans rfl; have hd2 : w11.cell? ⟨g2, 2, none⟩ = some (.int .i64 0) := (blk_cell S11.res 2).trans rfl; have he0 := blk_frozen S11.res 0; have he1 := blk_frozen S11.res 1; have he2 := blk_frozen S11.res 2; have G10 := Aside0.mk (show w.heap.size ≤ g10 by have := S10.below.size; omega); have BK10 := Aside0.mk hbox; clear hbox hb11 hg10) | fail)
              all_goals exact ⟨rfl, rfl, HBB _ (HBB _ (HBB _ S11.below _ G10.out _ _) _ G10.out _ _) _ G10.out _ _⟩
            · go_wp2_with (first | ((with_reducible refine gate_dst (N := 10) rfl ?_); refine box_event ?hg (N := 10) ?hd (cs := #[.bool false, .slice none 0 0, .int .i64 0]) (t := 25) ?hr ?_; (case hd => rfl); (case hg => rfl); (case hr => first | (go_simp; done) | (go_simp; rfl)); intro g10 hg10 w11 hbox hb11; have S11 := S10.old hb11; have HO3 := Aside0.mk (Kd.R_below HO2.out hb11); have hne1 : g2 ≠ g10 := (by rw [hg10]; exact Nat.ne_of_lt (blk_lt S10.res)); have hne2 : g10 ≠ g2 := hne1.symm; have hc0 : w11.cell? ⟨g10, 0, none⟩ = some (.bool false) := (blk_cell hbox 0).trans rfl; have hc1 : w11.cell? ⟨g10, 1, none⟩ = some (.slice none 0 0) := (blk_cell hbox 1).trans rfl; have hc2 : w11.cell? ⟨g10, 2, none⟩ = some (.int .i64 0) := (blk_cell hbox 2).trans rfl; have hf0 := blk_frozen hbox 0; have hf1 := blk_frozen hbox 1; have hf2 := blk_frozen hbox 2; have hd0 : w11.cell? ⟨g2, 0, none⟩ = some (.bool false) := (blk_cell S11.res 0).trans rfl; have hd1 : w11.cell? ⟨g2, 1, none⟩ = some (.slice none 0 0) := (blk_cell S11.res 1).trans rfl; have hd2 : w11.cell? ⟨g2, 2, none⟩ = some (.int .i64 0) := (blk_cell S11.res 2).trans rfl; have he0 := blk_frozen S11.res 0; have he1 := blk_frozen S11.res 1; have he2 := blk_frozen S11.res 2; have G10 := Aside0.mk (show w.heap.size ≤ g10 by have := S10.below.size; omega); have BK10 := Aside0.mk hbox; clear hbox hb11 hg10) | fail)
              all_goals exact ⟨rfl, rfl, HBB _ (HBB _ (HBB _ S11.below _ G10.out _ _) _ G10.out _ _) _ G10.out _ _⟩
          · rw [if_neg hbad] at H
            simp only [Option.some.injEq, Prod.mk.injEq] at H
            obtain ⟨rfl, rfl, rfl, rfl⟩ := H
            clear HH
            have HBB : ∀ W : World, Below w.heap.size w W → ∀ g : Nat, w.heap.size ≤ g → ∀ (n : Nat) (v : Value), Below w.heap.size w (W.setCell ⟨g, n, none⟩ v) := fun W h g hg n v => h.setCell hg v
            have hq4 : q4 = true := by
              cases q4 with
              | false => exact absurd (Or.inl rfl) hbad
              | true => rfl
            subst hq4
            by_cases hq : 0 < q2.length
            · have hp1 : (p == 1048576) = false := beq_eq_false_iff_ne.2 fun h => hbad (.inr ⟨hq, .inl h⟩)
              have hp2 : (p == -1048576) = false := beq_eq_false_iff_ne.2 fun h => hbad (.inr ⟨hq, .inr h⟩)
              clear hbad
              go_wp2_with (first | ((with_reducible refine gate_dst (N := 10) rfl ?_); refine box_event ?hg (N := 10) ?hd (cs := #[.bool false, .slice none 0 0, .int .i64 0]) (t := 25) ?hr ?_; (case hd => rfl); (case hg => rfl); (case hr => first | (go_simp; done) | (go_simp; rfl)); intro g10 hg10 w11 hbox hb11; have S11 := S10.old hb11; have HO3 := Aside0.mk (Kd.R_below HO2.out hb11); have hne1 : g2 ≠ g10 := (by rw [hg10]; exact Nat.ne_of_lt (blk_lt S10.res)); have hne2 : g10 ≠ g2 := hne1.symm; have hc0 : w11.cell? ⟨g10, 0, none⟩ = some (.bool false) := (blk_cell hbox 0).trans rfl; have hc1 : w11.cell? ⟨g10, 1, none⟩ = some (.slice none 0 0) := (blk_cell hbox 1).trans rfl; have hc2 : w11.cell? ⟨g10, 2, none⟩ = some (.int .i64 0) := (blk_cell hbox 2).trans rfl; have hf0 := blk_frozen hbox 0; have hf1 := blk_frozen hbox 1; have hf2 := blk_frozen hbox 2; have hd0 : w11.cell? ⟨g2, 0, none⟩ = some (.bool false) := (blk_cell S11.res 0).trans rfl; have hd1 : w11.cell? ⟨g2, 1, none⟩ = some (.slice none 0 0) := (blk_cell S11.res 1).trans rfl; have hd2 : w11.cell? ⟨g2, 2, none⟩ = some (.int .i64 0) := (blk_cell S11.res 2).trans rfl; have he0 := blk_frozen S11.res 0; have he1 := blk_frozen S11.res 1; have he2 := blk_frozen S11.res 2; have G10 := Aside0.mk (show w.heap.size ≤ g10 by have := S10.below.size; omega); have BK10 := Aside0.mk hbox; clear hbox hb11 hg10) | fail)
              refine bodyPost_ret (results_cell_row rfl _ _ g2 25 #[.bool q1, .slice Aq q2.length cq, .int .i64 q3] (0, 0) _ rfl (by refine blk_put (cs := #[.bool q1, .slice Aq q2.length cq, .int .i64 0]) ?_ 2 _ rfl; refine blk_put (cs := #[.bool q1, .slice none 0 0, .int .i64 0]) ?_ 1 _ rfl; refine blk_put (cs := #[.bool false, .slice none 0 0, .int .i64 0]) ?_ 0 _ rfl; rw [Below.heap_setCell _ _ _ _ hne1, Below.heap_setCell _ _ _ _ hne1, Below.heap_setCell _ _ _ _ hne1]; exact S11.res) hu25 rfl (by kernel_rfl)) rfl ?_
              have HR := Kd.R_types (Kd.R_types HO3.out BK10.out (by decide)) S11.res (by decide)
              first | refine .inr ⟨rfl, _, rfl, ?_, HBB _ (HBB _ (HBB _ (HBB _ (HBB _ (HBB _ S11.below _ G10.out _ _) _ G10.out _ _) _ G10.out _ _) _ S11.le _ _) _ S11.le _ _) _ S11.le _ _⟩ | refine ⟨_, rfl, ?_, HBB _ (HBB _ (HBB _ (HBB _ (HBB _ (HBB _ S11.below _ G10.out _ _) _ G10.out _ _) _ G10.out _ _) _ S11.le _ _) _ S11.le _ _) _ S11.le _ _⟩
              exact Kd.R_lower (Kd.R_mono (Kd.R_far (p := ⟨g2, 2, none⟩) (Kd.R_far (p := ⟨g2, 1, none⟩) (Kd.R_far (p := ⟨g2, 0, none⟩) (Kd.R_far (p := ⟨g10, 2, none⟩) (Kd.R_far (p := ⟨g10, 1, none⟩) (Kd.R_far (p := ⟨g10, 0, none⟩) HR (fun _ hk => hk.1.2) _) (fun _ hk => hk.1.2) _) (fun _ hk => hk.1.2) _) (fun _ hk => hk.2) _) (fun _ hk => hk.2) _) (fun _ hk => hk.2) _) (fun _ hk => trivial)) S9.below.size
            · clear hbad
              go_wp2_with (first | ((with_reducible refine gate_dst (N := 10) rfl ?_); refine box_event ?hg (N := 10) ?hd (cs := #[.bool false, .slice none 0 0, .int .i64 0]) (t := 25) ?hr ?_; (case hd => rfl); (case hg => rfl); (case hr => first | (go_simp; done) | (go_simp; rfl)); intro g10 hg10 w11 hbox hb11; have S11 := S10.old hb11; have HO3 := Aside0.mk (Kd.R_below HO2.out hb11); have hne1 : g2 ≠ g10 := (by rw [hg10]; exact Nat.ne_of_lt (blk_lt S10.res)); have hne2 : g10 ≠ g2 := hne1.symm; have hc0 : w11.cell? ⟨g10, 0, none⟩ = some (.bool false) := (blk_cell hbox 0).trans rfl; have hc1 : w11.cell? ⟨g10, 1, none⟩ = some (.slice none 0 0) := (blk_cell hbox 1).trans rfl; have hc2 : w11.cell? ⟨g10, 2, none⟩ = some (.int .i64 0) := (blk_cell hbox 2).trans rfl; have hf0 := blk_frozen hbox 0; have hf1 := blk_frozen hbox 1; have hf2 := blk_frozen hbox 2; have hd0 : w11.cell? ⟨g2, 0, none⟩ = some (.bool false) := (blk_cell S11.res 0).trans rfl; have hd1 : w11.cell? ⟨g2, 1, none⟩ = some (.slice none 0 0) := (blk_cell S11.res 1).trans rfl; have hd2 : w11.cell? ⟨g2, 2, none⟩ = some (.int .i64 0) := (blk_cell S11.res 2).trans rfl; have he0 := blk_frozen S11.res 0; have he1 := blk_frozen S11.res 1; have he2 := blk_frozen S11.res 2; have G10 := Aside0.mk (show w.heap.size ≤ g10 by have := S10.below.size; omega); have BK10 := Aside0.mk hbox; clear hbox hb11 hg10) | fail)
              refine bodyPost_ret (results_cell_row rfl _ _ g2 25 #[.bool q1, .slice Aq q2.length cq, .int .i64 q3] (0, 0) _ rfl (by refine blk_put (cs := #[.bool q1, .slice Aq q2.length cq, .int .i64 0]) ?_ 2 _ rfl; refine blk_put (cs := #[.bool q1, .slice none 0 0, .int .i64 0]) ?_ 1 _ rfl; refine blk_put (cs := #[.bool false, .slice none 0 0, .int .i64 0]) ?_ 0 _ rfl; rw [Below.heap_setCell _ _ _ _ hne1, Below.heap_setCell _ _ _ _ hne1, Below.heap_setCell _ _ _ _ hne1]; exact S11.res) hu25 rfl (by kernel_rfl)) rfl ?_
              have HR := Kd.R_types (Kd.R_types HO3.out BK10.out (by decide)) S11.res (by decide)
              first | refine .inr ⟨rfl, _, rfl, ?_, HBB _ (HBB _ (HBB _ (HBB _ (HBB _ (HBB _ S11.below _ G10.out _ _) _ G10.out _ _) _ G10.out _ _) _ S11.le _ _) _ S11.le _ _) _ S11.le _ _⟩ | refine ⟨_, rfl, ?_, HBB _ (HBB _ (HBB _ (HBB _ (HBB _ (HBB _ S11.below _ G10.out _ _) _ G10.out _ _) _ G10.out _ _) _ S11.le _ _) _ S11.le _ _) _ S11.le _ _⟩
              exact Kd.R_lower (Kd.R_mono (Kd.R_far (p := ⟨g2, 2, none⟩) (Kd.R_far (p := ⟨g2, 1, none⟩) (Kd.R_far (p := ⟨g2, 0, none⟩) (Kd.R_far (p := ⟨g10, 2, none⟩) (Kd.R_far (p := ⟨g10, 1, none⟩) (Kd.R_far (p := ⟨g10, 0, none⟩) HR (fun _ hk => hk.1.2) _) (fun _ hk => hk.1.2) _) (fun _ hk => hk.1.2) _) (fun _ hk => hk.2) _) (fun _ hk => hk.2) _) (fun _ hk => hk.2) _) (fun _ hk => trivial)) S9.below.size
        · have hE : numE neg (d ++ frac) (frac.size : Int) x2 = none := by unfold numE; rw [hx]; exact if_neg hy
          have H := HH.out
          rw [hE] at H
          simp only [Option.some.injEq, Prod.mk.injEq] at H
          obtain ⟨rfl, rfl, rfl, rfl⟩ := H
          clear HH hE hx
          have hy2 : y.toList ≠ [] := by
            intro h
            rw [Lib.toList_data] at h
            have := data_length y
            rw [h] at this
            exact hy this.symm
          have hy3 : y.toList.isEmpty = false := by rw [List.isEmpty_eq_false_iff]; exact hy2
          clear hy
          go_wp2_with fail
          first
            | exact ⟨rfl, rfl, S8.below⟩
            | exact ⟨rfl, .inl ⟨rfl, rfl, rfl, .inl rfl, rfl, S8.below⟩⟩
      · rw [Bool.not_eq_true] at hpt
        rw [hpt]
        have HQ := HH.out
        rw [HP.out, if_neg (by rw [hpt]; decide)] at HQ
        have HH := Aside0.mk HQ
        clear HQ HP hpt
        have hs2 := hasR_size ⟨#[46]⟩ x1
        generalize hasR ⟨#[46]⟩ x1 = x2 at *
        go_wp2_with fail
        refine (exponent_st S6 (by omega)).mono ?_
        rintro e w8 (⟨hx, rfl, b8⟩ | ⟨p, y, hx, rfl, S8⟩)
        · go_wp2_with fail
          have H := HH.out
          have hE : numE neg (d ++ ⟨#[]⟩) 0 x2 = none := by unfold numE; rw [hx]
          rw [hE] at H
          simp only [Option.some.injEq, Prod.mk.injEq] at H
          obtain ⟨rfl, rfl, rfl, rfl⟩ := H
          exact ⟨rfl, .inl ⟨rfl, rfl, rfl, .inl rfl, rfl, b8⟩⟩
        have hc8 := S8.rdr.cell
        by_cases hy : y.size = 0
        · have hE : numE neg (d ++ ⟨#[]⟩) 0 x2 = some (neg, (d ++ ⟨#[]⟩), 0, p) := by unfold numE; rw [hx]; exact if_pos hy
          have H := HH.out
          rw [hE] at H
          replace H : numK k neg (d ++ ⟨#[]⟩) 0 p = some (r1, r2, r3, r4) := H
          clear HH hE
          unfold numK at H
          obtain ⟨⟨m1, ok1⟩, A1, H⟩ := Option.bind_eq_some_iff.mp H
          obtain ⟨⟨q1, q2, q3, q4⟩, A2, H⟩ := Option.bind_eq_some_iff.mp H
          replace A2 : num_Make.f k neg m1 (wrap64 (p - 0)) = some (q1, q2, q3, q4) := A2
          try rw [Int.sub_zero] at A2
          replace H : (if q4 = false ∨ (0 < q2.length ∧ (p = 1048576 ∨ p = -1048576)) then some (false, [], 0, 4) else some (q1, q2, q3, 0)) = some (r1, r2, r3, r4) := H
          have HA1 := Aside0.mk A1
          have HA2 := Aside0.mk A2
          have HH := Aside0.mk H
          clear A1 A2 H hx
          obtain rfl : y = ⟨#[]⟩ := by
            apply ByteArray.ext
            exact Array.eq_empty_of_size_eq_zero hy
          clear hy
          go_wp2_with fail
          refine (nat_Parse.calls k _ m1 ok1 _ HA1.out).mono ?_
          rintro e w9 ⟨v, rfl, ho, hb⟩
          obtain ⟨Ao, co, rfl⟩ := Kd.R_slice ho
          have HO := Aside0.mk ho
          have S9 := S8.old hb
          clear ho hb hc8
          go_wp2_with fail
          refine (num_Make.calls k neg Ao co m1 _ q1 q2 q3 q4 _ (Kd.R_reads' HO.out).2.2 (Kd.R_reads' HO.out).2.1 HA2.out).mono ?_
          rintro e w10 ⟨v, rfl, ho, hb⟩
          obtain ⟨Aq, cq, rfl⟩ := Kd.R_slice ho
          have HO2 := Aside0.mk ho
          have S10 := S9.old hb
          clear ho hb HO HA2 HA1
          have H := HH.out
          by_cases hbad : q4 = false ∨ (0 < q2.length ∧ (p = 1048576 ∨ p = -1048576))
          · rw [if_pos hbad] at H
            simp only [Option.some.injEq, Prod.mk.injEq] at H
            obtain ⟨rfl, rfl, rfl, rfl⟩ := H
            clear HH
            have HBB : ∀ W : World, Below w.heap.size w W → ∀ g : Nat, w.heap.size ≤ g → ∀ (n : Nat) (v : Value), Below w.heap.size w (W.setCell ⟨g, n, none⟩ v) := fun W h g hg n v => h.setCell hg v
            rcases hbad with rfl | ⟨hq, rfl | rfl⟩
            · go_wp2_with (first | ((with_reducible refine gate_dst (N := 10) rfl ?_); refine box_event ?hg (N := 10) ?hd (cs := #[.bool false, .slice none 0 0, .int .i64 0]) (t := 25) ?hr ?_; (case hd => rfl); (case hg => rfl); (case hr => first | (go_simp; done) | (go_simp; rfl)); intro g10 hg10 w11 hbox hb11; have S11 := S10.old hb11; have HO3 := Aside0.mk (Kd.R_below HO2.out hb11); have hne1 : g2 ≠ g10 := (by rw [hg10]; exact Nat.ne_of_lt (blk_lt S10.res)); have hne2 : g10 ≠ g2 := hne1.symm; have hc0 : w11.cell? ⟨g10, 0, none⟩ = some (.bool false) := (blk_cell hbox 0).trans rfl; have hc1 : w11.cell? ⟨g10, 1, none⟩ = some (.slice none 0 0) := (blk_cell hbox 1).trans rfl; have hc2 : w11.cell? ⟨g10, 2, none⟩ = some (.int .i64 0) := (blk_cell hbox 2).trans rfl; have hf0 := blk_frozen hbox 0; have hf1 := blk_frozen hbox 1; have hf2 := blk_frozen hbox 2; have hd0 : w11.cell? ⟨g2, 0, none⟩ = some (.bool false) := (blk_cell S11.res 0).trans rfl; have hd1 : w11.cell? ⟨g2, 1, none⟩ = some (.slice none 0 0) := (blk_cell S11.res 1).trans rfl; have hd2 : w11.cell? ⟨g2, 2, none⟩ = some (.int .i64 0) := (blk_cell S11.res 2).trans rfl; have he0 := blk_frozen S11.res 0; have he1 := blk_frozen S11.res 1; have he2 := blk_frozen S11.res 2; have G10 := Aside0.mk (show w.heap.size ≤ g10 by have := S10.below.size; omega); have BK10 := Aside0.mk hbox; clear hbox hb11 hg10) | fail)
              all_goals exact ⟨rfl, rfl, HBB _ (HBB _ (HBB _ S11.below _ G10.out _ _) _ G10.out _ _) _ G10.out _ _⟩
            · go_wp2_with (first | ((with_reducible refine gate_dst (N := 10) rfl ?_); refine box_event ?hg (N := 10) ?hd (cs := #[.bool false, .slice none 0 0, .int .i64 0]) (t := 25) ?hr ?_; (case hd => rfl); (case hg => rfl); (case hr => first | (go_simp; done) | (go_simp; rfl)); intro g10 hg10 w11 hbox hb11; have S11 := S10.old hb11; have HO3 := Aside0.mk (Kd.R_below HO2.out hb11); have hne1 : g2 ≠ g10 := (by rw [hg10]; exact Nat.ne_of_lt (blk_lt S10.res)); have hne2 : g10 ≠ g2 := hne1.symm; have hc0 : w11.cell? ⟨g10, 0, none⟩ = some (.bool false) := (blk_cell hbox 0).trans rfl; have hc1 : w11.cell? ⟨g10, 1, none⟩ = some (.slice none 0 0) := (blk_cell hbox 1).trans rfl; have hc2 : w11.cell? ⟨g10, 2, none⟩ = some (.int .i64 0) := (blk_cell hbox 2).trans rfl; have hf0 := blk_frozen hbox 0; have hf1 := blk_frozen hbox 1; have hf2 := blk_frozen hbox 2; have hd0 : w11.cell? ⟨g2, 0, none⟩ = some (.bool false) := (blk_cell S11.res 0).trans rfl; have hd1 : w11.cell? ⟨g2, 1, none⟩ = some (.slice none 0 0) := (blk_cell S11.res 1).trans rfl; have hd2 : w11.cell? ⟨g2, 2, none⟩ = some (.int .i64 0) := (blk_cell S11.res 2).trans rfl; have he0 := blk_frozen S11.res 0; have he1 := blk_frozen S11.res 1; have he2 := blk_frozen S11.res 2; have G10 := Aside0.mk (show w.heap.size ≤ g10 by have := S10.below.size; omega); have BK10 := Aside0.mk hbox; clear hbox hb11 hg10) | fail)
              all_goals exact ⟨rfl, rfl, HBB _ (HBB _ (HBB _ S11.below _ G10.out _ _) _ G10.out _ _) _ G10.out _ _⟩
            · go_wp2_with (first | ((with_reducible refine gate_dst (N := 10) rfl ?_); refine box_event ?hg (N := 10) ?hd (cs := #[.bool false, .slice none 0 0, .int .i64 0]) (t := 25) ?hr ?_; (case hd => rfl); (case hg => rfl); (case hr => first | (go_simp; done) | (go_simp; rfl)); intro g10 hg10 w11 hbox hb11; have S11 := S10.old hb11; have HO3 := Aside0.mk (Kd.R_below HO2.out hb11); have hne1 : g2 ≠ g10 := (by rw [hg10]; exact Nat.ne_of_lt (blk_lt S10.res)); have hne2 : g10 ≠ g2 := hne1.symm; have hc0 : w11.cell? ⟨g10, 0, none⟩ = some (.bool false) := (blk_cell hbox 0).trans rfl; have hc1 : w11.cell? ⟨g10, 1, none⟩ = some (.slice none 0 0) := (blk_cell hbox 1).trans rfl; have hc2 : w11.cell? ⟨g10, 2, none⟩ = some (.int .i64 0) := (blk_cell hbox 2).trans rfl; have hf0 := blk_frozen hbox 0; have hf1 := blk_frozen hbox 1; have hf2 := blk_frozen hbox 2; have hd0 : w11.cell? ⟨g2, 0, none⟩ = some (.bool false) := (blk_cell S11.res 0).trans rfl; have hd1 : w11.cell? ⟨g2, 1, none⟩ = some (.slice none 0 0) := (blk_cell S11.res 1).trans rfl; have hd2 : w11.cell? ⟨g2, 2, none⟩ = some (.int .i64 0) := (blk_cell S11.res 2).trans rfl; have he0 := blk_frozen S11.res 0; have he1 := blk_frozen S11.res 1; have he2 := blk_frozen S11.res 2; have G10 := Aside0.mk (show w.heap.size ≤ g10 by have := S10.below.size; omega); have BK10 := Aside0.mk hbox; clear hbox hb11 hg10) | fail)
              all_goals exact ⟨rfl, rfl, HBB _ (HBB _ (HBB _ S11.below _ G10.out _ _) _ G10.out _ _) _ G10.out _ _⟩
          · rw [if_neg hbad] at H
            simp only [Option.some.injEq, Prod.mk.injEq] at H
            obtain ⟨rfl, rfl, rfl, rfl⟩ := H
            clear HH
            have HBB : ∀ W : World, Below w.heap.size w W → ∀ g : Nat, w.heap.size ≤ g → ∀ (n : Nat) (v : Value), Below w.heap.size w (W.setCell ⟨g, n, none⟩ v) := fun W h g hg n v => h.setCell hg v
            have hq4 : q4 = true := by
              cases q4 with
              | false => exact absurd (Or.inl rfl) hbad
              | true => rfl
            subst hq4
            by_cases hq : 0 < q2.length
            · have hp1 : (p == 1048576) = false := beq_eq_false_iff_ne.2 fun h => hbad (.inr ⟨hq, .inl h⟩)
              have hp2 : (p == -1048576) = false := beq_eq_false_iff_ne.2 fun h => hbad (.inr ⟨hq, .inr h⟩)
              clear hbad
              go_wp2_with (first | ((with_reducible refine gate_dst (N := 10) rfl ?_); refine box_event ?hg (N := 10) ?hd (cs := #[.bool false, .slice none 0 0, .int .i64 0]) (t := 25) ?hr ?_; (case hd => rfl); (case hg => rfl); (case hr => first | (go_simp; done) | (go_simp; rfl)); intro g10 hg10 w11 hbox hb11; have S11 := S10.old hb11; have HO3 := Aside0.mk (Kd.R_below HO2.out hb11); have hne1 : g2 ≠ g10 := (by rw [hg10]; exact Nat.ne_of_lt (blk_lt S10.res)); have hne2 : g10 ≠ g2 := hne1.symm; have hc0 : w11.cell? ⟨g10, 0, none⟩ = some (.bool false) := (blk_cell hbox 0).trans rfl; have hc1 : w11.cell? ⟨g10, 1, none⟩ = some (.slice none 0 0) := (blk_cell hbox 1).trans rfl; have hc2 : w11.cell? ⟨g10, 2, none⟩ = some (.int .i64 0) := (blk_cell hbox 2).trans rfl; have hf0 := blk_frozen hbox 0; have hf1 := blk_frozen hbox 1; have hf2 := blk_frozen hbox 2; have hd0 : w11.cell? ⟨g2, 0, none⟩ = some (.bool false) := (blk_cell S11.res 0).trans rfl; have hd1 : w11.cell? ⟨g2, 1, none⟩ = some (.slice none 0 0) := (blk_cell S11.res 1).trans rfl; have hd2 : w11.cell? ⟨g2, 2, none⟩ = some (.int .i64 0) := (blk_cell S11.res 2).trans rfl; have he0 := blk_frozen S11.res 0; have he1 := blk_frozen S11.res 1; have he2 := blk_frozen S11.res 2; have G10 := Aside0.mk (show w.heap.size ≤ g10 by have := S10.below.size; omega); have BK10 := Aside0.mk hbox; clear hbox hb11 hg10) | fail)
              refine bodyPost_ret (results_cell_row rfl _ _ g2 25 #[.bool q1, .slice Aq q2.length cq, .int .i64 q3] (0, 0) _ rfl (by refine blk_put (cs := #[.bool q1, .slice Aq q2.length cq, .int .i64 0]) ?_ 2 _ rfl; refine blk_put (cs := #[.bool q1, .slice none 0 0, .int .i64 0]) ?_ 1 _ rfl; refine blk_put (cs := #[.bool false, .slice none 0 0, .int .i64 0]) ?_ 0 _ rfl; rw [Below.heap_setCell _ _ _ _ hne1, Below.heap_setCell _ _ _ _ hne1, Below.heap_setCell _ _ _ _ hne1]; exact S11.res) hu25 rfl (by kernel_rfl)) rfl ?_
              have HR := Kd.R_types (Kd.R_types HO3.out BK10.out (by decide)) S11.res (by decide)
              first | refine .inr ⟨rfl, _, rfl, ?_, HBB _ (HBB _ (HBB _ (HBB _ (HBB _ (HBB _ S11.below _ G10.out _ _) _ G10.out _ _) _ G10.out _ _) _ S11.le _ _) _ S11.le _ _) _ S11.le _ _⟩ | refine ⟨_, rfl, ?_, HBB _ (HBB _ (HBB _ (HBB _ (HBB _ (HBB _ S11.below _ G10.out _ _) _ G10.out _ _) _ G10.out _ _) _ S11.le _ _) _ S11.le _ _) _ S11.le _ _⟩
              exact Kd.R_lower (Kd.R_mono (Kd.R_far (p := ⟨g2, 2, none⟩) (Kd.R_far (p := ⟨g2, 1, none⟩) (Kd.R_far (p := ⟨g2, 0, none⟩) (Kd.R_far (p := ⟨g10, 2, none⟩) (Kd.R_far (p := ⟨g10, 1, none⟩) (Kd.R_far (p := ⟨g10, 0, none⟩) HR (fun _ hk => hk.1.2) _) (fun _ hk => hk.1.2) _) (fun _ hk => hk.1.2) _) (fun _ hk => hk.2) _) (fun _ hk => hk.2) _) (fun _ hk => hk.2) _) (fun _ hk => trivial)) S9.below.size
            · clear hbad
              go_wp2_with (first | ((with_reducible refine gate_dst (N := 10) rfl ?_); refine box_event ?hg (N := 10) ?hd (cs := #[.bool false, .slice none 0 0, .int .i64 0]) (t := 25) ?hr ?_; (case hd => rfl); (case hg => rfl); (case hr => first | (go_simp; done) | (go_simp; rfl)); intro g10 hg10 w11 hbox hb11; have S11 := S10.old hb11; have HO3 := Aside0.mk (Kd.R_below HO2.out hb11); have hne1 : g2 ≠ g10 := (by rw [hg10]; exact Nat.ne_of_lt (blk_lt S10.res)); have hne2 : g10 ≠ g2 := hne1.symm; have hc0 : w11.cell? ⟨g10, 0, none⟩ = some (.bool false) := (blk_cell hbox 0).trans rfl; have hc1 : w11.cell? ⟨g10, 1, none⟩ = some (.slice none 0 0) := (blk_cell hbox 1).trans rfl; have hc2 : w11.cell? ⟨g10, 2, none⟩ = some (.int .i64 0) := (blk_cell hbox 2).trans rfl; have hf0 := blk_frozen hbox 0; have hf1 := blk_frozen hbox 1; have hf2 := blk_frozen hbox 2; have hd0 : w11.cell? ⟨g2, 0, none⟩ = some (.bool false) := (blk_cell S11.res 0).trans rfl; have hd1 : w11.cell? ⟨g2, 1, none⟩ = some (.slice none 0 0) := (blk_cell S11.res 1).trans rfl; have hd2 : w11.cell? ⟨g2, 2, none⟩ = some (.int .i64 0) := (blk_cell S11.res 2).trans rfl; have he0 := blk_frozen S11.res 0; have he1 := blk_frozen S11.res 1; have he2 := blk_frozen S11.res 2; have G10 := Aside0.mk (show w.heap.size ≤ g10 by have := S10.below.size; omega); have BK10 := Aside0.mk hbox; clear hbox hb11 hg10) | fail)
              refine bodyPost_ret (results_cell_row rfl _ _ g2 25 #[.bool q1, .slice Aq q2.length cq, .int .i64 q3] (0, 0) _ rfl (by refine blk_put (cs := #[.bool q1, .slice Aq q2.length cq, .int .i64 0]) ?_ 2 _ rfl; refine blk_put (cs := #[.bool q1, .slice none 0 0, .int .i64 0]) ?_ 1 _ rfl; refine blk_put (cs := #[.bool false, .slice none 0 0, .int .i64 0]) ?_ 0 _ rfl; rw [Below.heap_setCell _ _ _ _ hne1, Below.heap_setCell _ _ _ _ hne1, Below.heap_setCell _ _ _ _ hne1]; exact S11.res) hu25 rfl (by kernel_rfl)) rfl ?_
              have HR := Kd.R_types (Kd.R_types HO3.out BK10.out (by decide)) S11.res (by decide)
              first | refine .inr ⟨rfl, _, rfl, ?_, HBB _ (HBB _ (HBB _ (HBB _ (HBB _ (HBB _ S11.below _ G10.out _ _) _ G10.out _ _) _ G10.out _ _) _ S11.le _ _) _ S11.le _ _) _ S11.le _ _⟩ | refine ⟨_, rfl, ?_, HBB _ (HBB _ (HBB _ (HBB _ (HBB _ (HBB _ S11.below _ G10.out _ _) _ G10.out _ _) _ G10.out _ _) _ S11.le _ _) _ S11.le _ _) _ S11.le _ _⟩
              exact Kd.R_lower (Kd.R_mono (Kd.R_far (p := ⟨g2, 2, none⟩) (Kd.R_far (p := ⟨g2, 1, none⟩) (Kd.R_far (p := ⟨g2, 0, none⟩) (Kd.R_far (p := ⟨g10, 2, none⟩) (Kd.R_far (p := ⟨g10, 1, none⟩) (Kd.R_far (p := ⟨g10, 0, none⟩) HR (fun _ hk => hk.1.2) _) (fun _ hk => hk.1.2) _) (fun _ hk => hk.1.2) _) (fun _ hk => hk.2) _) (fun _ hk => hk.2) _) (fun _ hk => hk.2) _) (fun _ hk => trivial)) S9.below.size
        · have hE : numE neg (d ++ ⟨#[]⟩) 0 x2 = none := by unfold numE; rw [hx]; exact if_neg hy
          have H := HH.out
          rw [hE] at H
          simp only [Option.some.injEq, Prod.mk.injEq] at H
          obtain ⟨rfl, rfl, rfl, rfl⟩ := H
          clear HH hE hx
          have hy2 : y.toList ≠ [] := by
            intro h
            rw [Lib.toList_data] at h
            have := data_length y
            rw [h] at this
            exact hy this.symm
          have hy3 : y.toList.isEmpty = false := by rw [List.isEmpty_eq_false_iff]; exact hy2
          clear hy
          go_wp2_with fail
          first
            | exact ⟨rfl, rfl, S8.below⟩
            | exact ⟨rfl, .inl ⟨rfl, rfl, rfl, .inl rfl, rfl, S8.below⟩⟩
end Go.Proofs.YtmkdcokdilllcaaDoor.X
/- num.Parse: what a thrown error becomes. -/
namespace Go.Proofs.YtmkdcokdilllcaaDoor.X
open Go.RowKit Go.Proofs.YtmkdcokdilllcaaDoorW.PrintWords Go.Proofs.YtmkdcokdilllcaaDoorW.PrintLast Go.Proofs.YtmkdcokdilllcaaDoorW.PrintMore
set_option linter.unusedVariables false
set_option linter.unusedSimpArgs false
/-- The world with number 0 at p and the error c at q. -/
def caught (p q : Nat) (c : Int) (w : World) : World := (((w.setCell ⟨p, 0, none⟩ (.bool false)).setCell ⟨p, 1, none⟩ (.slice none 0 0)).setCell ⟨p, 2, none⟩ (.int .i64 0)).setCell ⟨q, 0, none⟩ (.int .i64 c)
theorem assert_errno (c : Int) (xT : TypeId) (w : World) : (Instr.typeAssert (.iface 26 (.int .i64 c)) xT 26 true).run Tryd.prog w = .ok (.tuple #[.int .i64 c, .bool true]) w := by
  simp [Instr.typeAssert, run_underlying Tryd.underlying26, go_sem, Result.andThen]
set_option maxRecDepth 100000 in
set_option maxHeartbeats 4000000 in
theorem catch_panicking (p q : Nat) (hne : p ≠ q) (x1 : Bool) (x2 : Value) (x3 c0 : Int) (c : Int) (older : List PanicEntry) (w : World)
    (hp : w.heap[p]? = some (.cells #[.bool x1, x2, .int .i64 x3] 25 (0, 0))) (hq : w.heap[q]? = some (.cells #[.int .i64 c0] 26 (0, 0))) :
    CallsD Tryd.prog 25 #[.pointer (some ⟨p, 0, none⟩), .pointer (some ⟨q, 0, none⟩)] (.panicking ({ v := .iface 26 (.int .i64 c), recovered := false } :: older)) w fun e u' w' =>
      e = .returned (.tuple #[]) ∧ u' = .panicking ({ v := .iface 26 (.int .i64 c), recovered := true } :: older) ∧ w' = caught p q c w := by
  have hu25 := Tryd.underlying25
  have hc0 : w.cell? ⟨p, 0, none⟩ = some (.bool x1) := (blk_cell hp 0).trans rfl
  have hc1 : w.cell? ⟨p, 1, none⟩ = some x2 := (blk_cell hp 1).trans rfl
  have hc2 : w.cell? ⟨p, 2, none⟩ = some (.int .i64 x3) := (blk_cell hp 2).trans rfl
  have hf0 := blk_frozen hp 0
  have hf1 := blk_frozen hp 1
  have hf2 := blk_frozen hp 2
  have hd0 : w.cell? ⟨q, 0, none⟩ = some (.int .i64 c0) := (blk_cell hq 0).trans rfl
  have he0 := blk_frozen hq 0
  have hne2 := hne.symm
  clear hp hq
  refine callsD_of_wpS Tryd.func25 rfl fun c₀ cs hu => ?_
  apply wpS_seq
  apply wpS_region
  simp [wpOpsS, go_sem, recoverD, hu, Tryd.ntmps25, Exit.thenS]
  refine wpS_of_wp ?_
  have ht : (#[Value.pointer (some ⟨p, 0, none⟩), Value.pointer (some ⟨q, 0, none⟩)] ++ ((Array.replicate 16 undef).setIfInBounds 3 (Value.iface 26 (Value.int IntKind.i64 c))).setIfInBounds 0 (Value.iface 26 (Value.int IntKind.i64 c)) : Array Value) = #[Value.pointer (some ⟨p, 0, none⟩), Value.pointer (some ⟨q, 0, none⟩), Value.iface 26 (Value.int IntKind.i64 c), undef, undef, Value.iface 26 (Value.int IntKind.i64 c), undef, undef, undef, undef, undef, undef, undef, undef, undef, undef, undef, undef] := rfl
  rw [ht]
  clear ht
  have hta := fun xT w => assert_errno c xT w
  have HU := Aside0.mk hu
  clear hu
  go_wp2_with fail
  simp [bodyPostS, results, Tryd.results25, caught]
theorem catch_idle (p q : Nat) (w : World) :
    CallsD Tryd.prog 25 #[.pointer (some ⟨p, 0, none⟩), .pointer (some ⟨q, 0, none⟩)] .returning w fun e u' w' => e = .returned (.tuple #[]) ∧ u' = .returning ∧ w' = w := by
  refine callsD_of_wpS Tryd.func25 rfl fun c₀ cs hu => ?_
  apply wpS_seq
  apply wpS_region
  simp [wpOpsS, go_sem, recoverD, hu, Tryd.ntmps25, Exit.thenS]
  refine wpS_of_wp ?_
  have ht : (#[Value.pointer (some ⟨p, 0, none⟩), Value.pointer (some ⟨q, 0, none⟩)] ++ ((Array.replicate 16 undef).setIfInBounds 3 Value.nilIface).setIfInBounds 0 Value.nilIface : Array Value) = #[Value.pointer (some ⟨p, 0, none⟩), Value.pointer (some ⟨q, 0, none⟩), Value.nilIface, undef, undef, Value.nilIface, undef, undef, undef, undef, undef, undef, undef, undef, undef, undef, undef, undef] := rfl
  rw [ht]
  clear ht
  have HU := Aside0.mk hu
  clear hu
  go_wp2_with fail
  cases c₀
  have hu := HU.out
  simp_all [bodyPostS, results, Tryd.results25]
theorem results_parse (tmps : Array Value) (g2 g3 : Nat) (v0 v1 v2 : Value) (c : Int) (W : World) (hp : tmps.getD 2 undef = .pointer (some ⟨g2, 0, none⟩)) (hq : tmps.getD 3 undef = .pointer (some ⟨g3, 0, none⟩))
    (h2 : W.heap[g2]? = some (.cells #[v0, v1, v2] 25 (0, 0))) (h3 : W.heap[g3]? = some (.cells #[.int .i64 c] 26 (0, 0))) :
    (results Tryd.f10 tmps).run Tryd.prog W = .ok (.tuple #[.agg #[v0, v1, v2], .int .i64 c]) W := by
  have hp' : tmps[2]?.getD undef = .pointer (some ⟨g2, 0, none⟩) := by simpa using hp
  have hq' : tmps[3]?.getD undef = .pointer (some ⟨g3, 0, none⟩) := by simpa using hq
  have hc : W.cell? ⟨g3, 0, none⟩ = some (.int .i64 c) := (blk_cell h3 0).trans rfl
  have hc0 : W.cell? ⟨g2, 0, none⟩ = some v0 := (blk_cell h2 0).trans rfl
  have hc1 : W.cell? ⟨g2, 1, none⟩ = some v1 := (blk_cell h2 1).trans rfl
  have hc2 : W.cell? ⟨g2, 2, none⟩ = some v2 := (blk_cell h2 2).trans rfl
  have hr : Tryd.f10.results = #[.cell 2 25, .cell 3 26] := rfl
  simp [results, hr, hp', hq', asAddr, go_sem, hc, hc0, hc1, hc2, Result.andThen]
set_option maxRecDepth 100000 in
set_option maxHeartbeats 4000000 in
theorem parse_thrown (k : Nat) (s : ByteArray) (c : Int) (w : World) (hc : c = 2 ∨ c = 4) (h : numG k s = some (false, [], 0, c)) :
    Calls Tryd.prog 10 #[.string s] w fun e w' => e = .returned (.tuple #[.agg #[.bool false, .slice none 0 0, .int .i64 0], .int .i64 c]) ∧ Below w.heap.size w w' := by
  have HB := Aside0.mk (Below.refl w.heap.size w)
  have hmf : ∀ (fn : Fn) (first cap : Array Value) (w : World), (Instr.makeFunc fn first cap).run Tryd.prog w = .ok (.func fn first cap) w := fun _ _ _ _ => rfl
  have hu25 := Tryd.underlying25
  go_enter_defers Tryd.func10, Tryd.ntmps10
  go_wp2_with (first
      | ((with_reducible refine gate_dst (N := 2) rfl ?_); refine box_event ?hg (N := 2) ?hd (cs := #[.bool false, .slice none 0 0, .int .i64 0]) (t := 25) ?hr ?_; (case hd => rfl); (case hg => rfl); (case hr => first | (go_simp; done) | (go_simp; rfl)); intro g2 hg2 w2 hbox2 hb2; have B2 := Aside0.mk hbox2; have HB2 := Aside0.mk hb2; have G2 := Aside0.mk hg2; clear hbox2 hb2 hg2)
      | ((with_reducible refine gate_dst (N := 3) rfl ?_); refine box_event ?hg (N := 3) ?hd (cs := #[.int .i64 0]) (t := 26) ?hr ?_; (case hd => rfl); (case hg => rfl); (case hr => first | (go_simp; done) | (go_simp; rfl)); intro g3 hg3 w3 hbox3 hb3; have B3 := Aside0.mk hbox3; have HB3 := Aside0.mk hb3; have G3 := Aside0.mk hg3; clear hbox3 hb3 hg3)
      | fail)
  have hlt2 : g2 < w2.heap.size := blk_lt B2.out
  have hne : g2 ≠ g3 := by have := G3.out; omega
  have B2' : w3.heap[g2]? = _ := (HB3.out.block g2 hlt2).trans B2.out
  have hlt3 := blk_lt B2'
  have hlt4 := blk_lt B3.out
  have hbw : Below w.heap.size w w3 := HB2.out.trans (HB3.out.mono HB2.out.size)
  have hg2 : w.heap.size ≤ g2 := by have := G2.out; omega
  have hg3 : w.heap.size ≤ g3 := by have := G3.out; have := HB2.out.size; omega
  refine (number_calls k s false [] 0 c w3 h).mono ?_
  rintro e w4 (⟨_, _, _, _, rfl, b4⟩ | ⟨h0, _⟩)
  · have C2 : w4.heap[g2]? = _ := (b4.block g2 hlt3).trans B2'
    have C3 : w4.heap[g3]? = _ := (b4.block g3 hlt4).trans B3.out
    have hbw4 := hbw.trans (b4.mono hbw.size)
    clear B2 B3 HB2 HB3 G2 G3 B2'
    go_wp2_with fail
    refine leaves_cons (f := 25) (args := #[.pointer (some ⟨g2, 0, none⟩), .pointer (some ⟨g3, 0, none⟩)]) (by simp) (by simp [go_sem]) ?_
    refine (catch_panicking g2 g3 hne false (.slice none 0 0) 0 0 c [] _ C2 C3).mono ?_
    rintro e u' w5 ⟨rfl, rfl, rfl⟩
    have D2 : (caught g2 g3 c w4).heap[g2]? = some (.cells #[.bool false, .slice none 0 0, .int .i64 0] 25 (0, 0)) := by
      unfold caught
      rw [Below.heap_setCell _ _ _ _ hne]
      exact blk_put (cs := #[.bool false, .slice none 0 0, .int .i64 0]) (blk_put (cs := #[.bool false, .slice none 0 0, .int .i64 0]) (blk_put (cs := #[.bool false, .slice none 0 0, .int .i64 0]) C2 0 (.bool false) rfl) 1 (.slice none 0 0) rfl) 2 (.int .i64 0) rfl
    have D3 : (caught g2 g3 c w4).heap[g3]? = some (.cells #[.int .i64 c] 26 (0, 0)) := by
      unfold caught
      refine blk_put (cs := #[.int .i64 0]) ?_ 0 (.int .i64 c) rfl
      rw [Below.heap_setCell _ _ _ _ hne.symm, Below.heap_setCell _ _ _ _ hne.symm, Below.heap_setCell _ _ _ _ hne.symm]
      exact C3
    have D4 : Below w.heap.size w (caught g2 g3 c w4) := by
      unfold caught
      exact (((hbw4.setCell (p := ⟨g2, 0, none⟩) hg2 _).setCell (p := ⟨g2, 1, none⟩) hg2 _).setCell (p := ⟨g2, 2, none⟩) hg2 _).setCell (p := ⟨g3, 0, none⟩) hg3 _
    simp only [Leaves, settle]
    exact ⟨_, results_parse _ g2 g3 _ _ _ c _ rfl rfl D2 D3, rfl, D4⟩
  · omega
set_option maxRecDepth 100000 in
set_option maxHeartbeats 4000000 in
theorem parse_fine (k : Nat) (s : ByteArray) (r1 : Bool) (r2 : List Int) (r3 : Int) (w : World) (h : numG k s = some (r1, r2, r3, 0)) :
    Calls Tryd.prog 10 #[.string s] w fun e w' => ∃ v1_, e = .returned (.tuple #[.agg #[.bool r1, v1_, .int .i64 r3], .int .i64 0]) ∧ Kd.R (Kd.int .u32) 40 w' w.heap.size (fun _ => True) v1_ r2 ∧ Below w.heap.size w w' := by
  have HB := Aside0.mk (Below.refl w.heap.size w)
  have hmf : ∀ (fn : Fn) (first cap : Array Value) (w : World), (Instr.makeFunc fn first cap).run Tryd.prog w = .ok (.func fn first cap) w := fun _ _ _ _ => rfl
  have hu25 := Tryd.underlying25
  go_enter_defers Tryd.func10, Tryd.ntmps10
  go_wp2_with (first
      | ((with_reducible refine gate_dst (N := 2) rfl ?_); refine box_event ?hg (N := 2) ?hd (cs := #[.bool false, .slice none 0 0, .int .i64 0]) (t := 25) ?hr ?_; (case hd => rfl); (case hg => rfl); (case hr => first | (go_simp; done) | (go_simp; rfl)); intro g2 hg2 w2 hbox2 hb2; have B2 := Aside0.mk hbox2; have HB2 := Aside0.mk hb2; have G2 := Aside0.mk hg2; clear hbox2 hb2 hg2)
      | ((with_reducible refine gate_dst (N := 3) rfl ?_); refine box_event ?hg (N := 3) ?hd (cs := #[.int .i64 0]) (t := 26) ?hr ?_; (case hd => rfl); (case hg => rfl); (case hr => first | (go_simp; done) | (go_simp; rfl)); intro g3 hg3 w3 hbox3 hb3; have B3 := Aside0.mk hbox3; have HB3 := Aside0.mk hb3; have G3 := Aside0.mk hg3; clear hbox3 hb3 hg3)
      | fail)
  have hlt2 : g2 < w2.heap.size := blk_lt B2.out
  have hne : g2 ≠ g3 := by have := G3.out; omega
  have B2' : w3.heap[g2]? = _ := (HB3.out.block g2 hlt2).trans B2.out
  have hlt3 := blk_lt B2'
  have hlt4 := blk_lt B3.out
  have hbw : Below w.heap.size w w3 := HB2.out.trans (HB3.out.mono HB2.out.size)
  have hg2 : w.heap.size ≤ g2 := by have := G2.out; omega
  have hg3 : w.heap.size ≤ g3 := by have := G3.out; have := HB2.out.size; omega
  refine (number_calls k s r1 r2 r3 0 w3 h).mono ?_
  rintro e w4 (⟨_, _, _, h0, _, _⟩ | ⟨_, v, rfl, ho, b4⟩)
  · omega
  · have C2 : w4.heap[g2]? = _ := (b4.block g2 hlt3).trans B2'
    have C3 : w4.heap[g3]? = _ := (b4.block g3 hlt4).trans B3.out
    have hbw4 := hbw.trans (b4.mono hbw.size)
    obtain ⟨Aq, cq, rfl⟩ := Kd.R_slice ho
    have HO := Aside0.mk ho
    clear B2 B3 HB2 HB3 G2 G3 B2' ho
    have hc0 : w4.cell? ⟨g2, 0, none⟩ = some (.bool false) := (blk_cell C2 0).trans rfl
    have hc1 : w4.cell? ⟨g2, 1, none⟩ = some (.slice none 0 0) := (blk_cell C2 1).trans rfl
    have hc2 : w4.cell? ⟨g2, 2, none⟩ = some (.int .i64 0) := (blk_cell C2 2).trans rfl
    have hf0 := blk_frozen C2 0
    have hf1 := blk_frozen C2 1
    have hf2 := blk_frozen C2 2
    have hd0 : w4.cell? ⟨g3, 0, none⟩ = some (.int .i64 0) := (blk_cell C3 0).trans rfl
    have he0 := blk_frozen C3 0
    have hne2 := hne.symm
    have K2 := Aside0.mk C2
    have K3 := Aside0.mk C3
    clear C2 C3
    go_wp2_with fail
    refine leaves_cons (f := 25) (args := #[.pointer (some ⟨g2, 0, none⟩), .pointer (some ⟨g3, 0, none⟩)]) (by simp) (by simp [go_sem]) ?_
    refine (catch_idle g2 g3 _).mono ?_
    rintro e u' w5 ⟨rfl, rfl, rfl⟩
    simp only [Leaves, settle]
    have D2 : ((((w4.setCell ⟨g2, 0, none⟩ (.bool r1)).setCell ⟨g2, 1, none⟩ (.slice Aq r2.length cq)).setCell ⟨g2, 2, none⟩ (.int .i64 r3)).setCell ⟨g3, 0, none⟩ (.int .i64 0)).heap[g2]? = some (.cells #[.bool r1, .slice Aq r2.length cq, .int .i64 r3] 25 (0, 0)) := by
      rw [Below.heap_setCell _ _ _ _ hne]
      exact blk_put (cs := #[.bool r1, .slice Aq r2.length cq, .int .i64 0]) (blk_put (cs := #[.bool r1, .slice none 0 0, .int .i64 0]) (blk_put (cs := #[.bool false, .slice none 0 0, .int .i64 0]) K2.out 0 (.bool r1) rfl) 1 (.slice Aq r2.length cq) rfl) 2 (.int .i64 r3) rfl
    have D3 : ((((w4.setCell ⟨g2, 0, none⟩ (.bool r1)).setCell ⟨g2, 1, none⟩ (.slice Aq r2.length cq)).setCell ⟨g2, 2, none⟩ (.int .i64 r3)).setCell ⟨g3, 0, none⟩ (.int .i64 0)).heap[g3]? = some (.cells #[.int .i64 0] 26 (0, 0)) := by
      refine blk_put (cs := #[.int .i64 0]) ?_ 0 (.int .i64 0) rfl
      rw [Below.heap_setCell _ _ _ _ hne2, Below.heap_setCell _ _ _ _ hne2, Below.heap_setCell _ _ _ _ hne2]
      exact K3.out
    have D4 := (((hbw4.setCell (p := ⟨g2, 0, none⟩) hg2 (.bool r1)).setCell (p := ⟨g2, 1, none⟩) hg2 (.slice Aq r2.length cq)).setCell (p := ⟨g2, 2, none⟩) hg2 (.int .i64 r3)).setCell (p := ⟨g3, 0, none⟩) hg3 (.int .i64 0)
    have HR := Kd.R_types (Kd.R_types HO.out K2.out (by decide)) K3.out (by decide)
    refine ⟨_, results_parse _ g2 g3 _ _ _ 0 _ rfl rfl D2 D3, _, rfl, ?_, D4⟩
    exact Kd.R_lower (Kd.R_mono (Kd.R_far (p := ⟨g3, 0, none⟩) (Kd.R_far (p := ⟨g2, 2, none⟩) (Kd.R_far (p := ⟨g2, 1, none⟩) (Kd.R_far (p := ⟨g2, 0, none⟩) HR (fun _ hk => hk.1.2) _) (fun _ hk => hk.1.2) _) (fun _ hk => hk.1.2) _) (fun _ hk => hk.2) _) (fun _ hk => trivial)) hbw.size
/-- num.Parse. -/
def num_Parse.f (k : Nat) (a0 : ByteArray) : Option (Bool × List Int × Int × Int) := numG k a0
theorem numG_cases {k : Nat} {s : ByteArray} {r1 : Bool} {r2 : List Int} {r3 r4 : Int} (h : numG k s = some (r1, r2, r3, r4)) : r4 = 0 ∨ (r1 = false ∧ r2 = [] ∧ r3 = 0 ∧ (r4 = 2 ∨ r4 = 4)) := by
  unfold numG at h
  split at h
  · simp only [Option.some.injEq, Prod.mk.injEq] at h
    obtain ⟨rfl, rfl, rfl, rfl⟩ := h
    exact .inr ⟨rfl, rfl, rfl, .inr rfl⟩
  · split at h
    · simp only [Option.some.injEq, Prod.mk.injEq] at h
      obtain ⟨rfl, rfl, rfl, rfl⟩ := h
      exact .inr ⟨rfl, rfl, rfl, .inl rfl⟩
    · unfold numK at h
      obtain ⟨r, A1, h⟩ := Option.bind_eq_some_iff.mp h
      obtain ⟨q, A2, h⟩ := Option.bind_eq_some_iff.mp h
      split at h
      · simp only [Option.some.injEq, Prod.mk.injEq] at h
        obtain ⟨rfl, rfl, rfl, rfl⟩ := h
        exact .inr ⟨rfl, rfl, rfl, .inr rfl⟩
      · simp only [Option.some.injEq, Prod.mk.injEq] at h
        exact .inl h.2.2.2.symm
theorem num_Parse.calls (k : Nat) (a0 : ByteArray) (r1 : Bool) (r2 : List Int) (r3 r4 : Int) (w : World) (hL : Laid w) (h : num_Parse.f k a0 = some (r1, r2, r3, r4)) :
    Calls Tryd.prog 10 #[.string a0] w fun e w' => ∃ v1_ : Value, e = .returned (.tuple #[.agg #[.bool r1, v1_, .int .i64 r3], .int .i64 r4]) ∧ Kd.R (Kd.int .u32) 40 w' w.heap.size (fun _ => True) v1_ r2 ∧ Below w.heap.size w w' := by
  rcases numG_cases h with rfl | ⟨rfl, rfl, rfl, hc⟩
  · exact parse_fine k a0 r1 r2 r3 w h
  · refine (parse_thrown k a0 r4 w hc h).mono ?_
    rintro e w' ⟨rfl, hb⟩
    exact ⟨_, rfl, Kd.R_nil _ _ _ _ _, hb⟩
end Go.Proofs.YtmkdcokdilllcaaDoor.X
/- What a text of a number says: the code's reading of it. -/
namespace Go.Proofs.YtmkdcokdilllcaaDoor.X
open Go.RowKit Go.Proofs.YtmkdcokdilllcaaDoorW.PrintWords Go.Proofs.YtmkdcokdilllcaaDoorW.PrintMore
set_option linter.unusedVariables false
set_option linter.unusedSimpArgs false
def pHas (t : List UInt8) : List UInt8 → Bool
  | [] => false
  | c :: _ => decide (c ∈ t)
def pSkip (t l : List UInt8) : List UInt8 := if pHas t l = true then l.tail else l
def dg (l : List UInt8) : List UInt8 := l.takeWhile isDig
def dr (l : List UInt8) : List UInt8 := l.drop (nDig l)
theorem dg_length (l : List UInt8) : (dg l).length = nDig l := rfl
/-- The end of a text. -/
def tailL (neg : Bool) (m : List UInt8) (n : Nat) (l : List UInt8) : Option (Bool × List UInt8 × Nat × Option (Bool × List UInt8)) :=
  if pHas [101, 69] l = true then
    if dg (if pHas [45] l.tail = true then l.tail.tail else pSkip [43] l.tail) = [] then none
    else if dr (if pHas [45] l.tail = true then l.tail.tail else pSkip [43] l.tail) = [] then some (neg, m, n, some (pHas [45] l.tail, dg (if pHas [45] l.tail = true then l.tail.tail else pSkip [43] l.tail)))
    else none
  else if l = [] then some (neg, m, n, none) else none
def leadL (l : List UInt8) : Bool := decide (l.length > 1) && (l.headD 0 == 48)
/-- What a text says. -/
def specL (l : List UInt8) : Option (Bool × List UInt8 × Nat × Option (Bool × List UInt8)) :=
  if dg (pSkip [45] l) = [] then none
  else if leadL (dg (pSkip [45] l)) = true then none
  else if pHas [46] (dr (pSkip [45] l)) = true then
    (if dg (dr (pSkip [45] l)).tail = [] then none
     else tailL (pHas [45] l) (dg (pSkip [45] l) ++ dg (dr (pSkip [45] l)).tail) (dg (dr (pSkip [45] l)).tail).length (dr (dr (pSkip [45] l)).tail))
  else tailL (pHas [45] l) (dg (pSkip [45] l)) 0 (dr (pSkip [45] l))
def dec (l : List UInt8) : Nat := (Lib.decFrom 0 l).getD 0
def expN (d : List UInt8) : Int := if (Lib.trimLeftB d 48).length ≤ 6 then ((dec (Lib.trimLeftB d 48) : Nat) : Int) else 1048576
def expL : Option (Bool × List UInt8) → Int
  | none => 0
  | some (less, d) => if less = true then -expN d else expN d
/-- What a text comes to. -/
def resS : Option (Bool × List UInt8 × Nat × Option (Bool × List UInt8)) → Bool × List Int × Int × Int
  | none => (false, [], 0, 2)
  | some (neg, m, n, ex) =>
    if (makeS neg (dec m) (expL ex - n)).2.2.2 = false ∨ (0 < (makeS neg (dec m) (expL ex - n)).2.1.length ∧ (expL ex = 1048576 ∨ expL ex = -1048576)) then (false, [], 0, 4)
    else ((makeS neg (dec m) (expL ex - n)).1, (makeS neg (dec m) (expL ex - n)).2.1, (makeS neg (dec m) (expL ex - n)).2.2.1, 0)
theorem b45 : (ByteArray.mk #[45]).data.toList = [45] := rfl
theorem b46 : (ByteArray.mk #[46]).data.toList = [46] := rfl
theorem bEe : (ByteArray.mk #[101, 69]).data.toList = [101, 69] := rfl
theorem hasF_list (t x : ByteArray) : hasF t x = pHas t.data.toList x.data.toList := by
  unfold hasF pHas
  rcases x.data.toList with _ | ⟨c, l⟩ <;> rfl
theorem extract_list (x : ByteArray) (i j : Nat) : (x.extract i j).data.toList = (x.data.toList.drop i).take (j - i) := by
  rw [ByteArray.data_extract, Array.toList_extract, List.extract]
theorem hasR_list (t x : ByteArray) : (hasR t x).data.toList = pSkip t.data.toList x.data.toList := by
  unfold hasR pSkip
  rw [hasF_list]
  split
  · rw [extract_list, List.take_of_length_le (by rw [List.length_drop, dlen]; exact Nat.le_refl _), List.drop_one]
  · rfl
theorem digF_list (x : ByteArray) : (digF x).data.toList = dg x.data.toList := digF_data x
theorem digR_list (x : ByteArray) : (digR x).data.toList = dr x.data.toList := by
  unfold digR dr
  rw [extract_list, List.take_of_length_le (by rw [List.length_drop, dlen]; exact Nat.le_refl _)]
theorem nDig_zero (l : List UInt8) : nDig l = 0 ↔ dg l = [] := by
  rw [← dg_length, List.length_eq_zero_iff]
theorem lead_list (x : ByteArray) : lead x = leadL x.data.toList := by
  unfold lead leadL
  rw [dlen]
theorem append_list (x y : ByteArray) : (x ++ y).data.toList = x.data.toList ++ y.data.toList := by
  rw [ByteArray.data_append, Array.toList_append]
theorem size_list (x : ByteArray) : x.size = 0 ↔ x.data.toList = [] := by
  rw [← dlen, List.length_eq_zero_iff]
/-- What the code reads, as lists. -/
def same (a : Option (Bool × ByteArray × Int × Int)) (b : Option (Bool × List UInt8 × Nat × Option (Bool × List UInt8))) : Prop :=
  match a, b with
  | none, none => True
  | some (neg, m, n, p), some (neg', m', n', ex) => neg = neg' ∧ m.data.toList = m' ∧ n = (n' : Int) ∧ p = expL ex
  | _, _ => False
theorem expS_list (x : ByteArray) (h : pHas [101, 69] x.data.toList = true) : (expS x).data.toList = if pHas [45] x.data.toList.tail = true then x.data.toList.tail.tail else pSkip [43] x.data.toList.tail := by
  have h1 : (hasR ⟨#[101, 69]⟩ x).data.toList = x.data.toList.tail := by
    rw [hasR_list, pSkip, if_pos h]
  unfold expS
  rw [hasF_list, h1]
  by_cases h2 : pHas [45] x.data.toList.tail = true
  · rw [if_pos h2, if_pos h2, hasR_list, h1, pSkip, if_pos h2]
  · rw [if_neg h2, if_neg h2, hasR_list, hasR_list, h1]
    rw [show pSkip [45] x.data.toList.tail = x.data.toList.tail from by rw [pSkip, if_neg h2]]
theorem expV_list (x : ByteArray) : expV x = expN (dg x.data.toList) := by
  unfold expV expN expD dec
  rw [digF_list]
theorem numE_same (neg : Bool) (m : ByteArray) (n : Nat) (x : ByteArray) : same (numE neg m (n : Int) x) (tailL neg m.data.toList n x.data.toList) := by
  unfold numE tailL expF
  rw [hasF_list]
  by_cases h : pHas [101, 69] x.data.toList = true
  · have hS := expS_list x h
    have h1 : (hasR ⟨#[101, 69]⟩ x).data.toList = x.data.toList.tail := by rw [hasR_list, pSkip, if_pos h]
    rw [hasF_list, h1, bEe, b45, ← hS]
    rw [if_pos h, if_pos h]
    have hR := digR_list (expS x)
    have hV := expV_list (expS x)
    generalize (expS x).data.toList = l at *
    generalize digR (expS x) = y at *
    generalize expV (expS x) = v at *
    clear hS
    by_cases hd : dg l = []
    · rw [if_pos ((nDig_zero _).2 hd), if_pos hd]
      trivial
    · rw [if_neg (fun h => hd ((nDig_zero _).1 h)), if_neg hd]
      simp only
      by_cases hy : y.size = 0
      · rw [if_pos hy, if_pos (show dr l = [] by rw [← hR]; exact (size_list _).1 hy)]
        refine ⟨rfl, rfl, rfl, ?_⟩
        rw [hV]
        rfl
      · rw [if_neg hy, if_neg (show ¬ dr l = [] by rw [← hR]; exact fun h => hy ((size_list _).2 h))]
        trivial
  · rw [if_neg h, if_neg h]
    simp only
    by_cases hy : x.size = 0
    · rw [if_pos hy, if_pos ((size_list _).1 hy)]
      exact ⟨rfl, rfl, rfl, rfl⟩
    · rw [if_neg hy, if_neg (fun h => hy ((size_list _).2 h))]
      trivial
theorem numP_same (s : ByteArray) : same (numP s) (specL s.data.toList) := by
  have h1 : (hasR ⟨#[45]⟩ s).data.toList = pSkip [45] s.data.toList := hasR_list _ _
  have h2 := digR_list (hasR ⟨#[45]⟩ s)
  have h3 := hasR_list ⟨#[46]⟩ (digR (hasR ⟨#[45]⟩ s))
  have hF := hasF_list ⟨#[45]⟩ s
  have hG := hasF_list ⟨#[46]⟩ (digR (hasR ⟨#[45]⟩ s))
  have hL := lead_list (digF (hasR ⟨#[45]⟩ s))
  have hD := digF_list (hasR ⟨#[45]⟩ s)
  unfold numP specL
  rw [hD] at hL
  rw [b46, h2] at h3 hG
  rw [b45] at hF
  rw [h1] at h2 h3 hG hL hD
  rw [hL, hF, hG, h1]
  generalize pSkip [45] s.data.toList = l at *
  generalize pHas [45] s.data.toList = neg at *
  generalize digF (hasR ⟨#[45]⟩ s) = w at *
  generalize digR (hasR ⟨#[45]⟩ s) = x at *
  generalize hasR ⟨#[46]⟩ x = y at *
  clear h1 hF hG hL
  by_cases c1 : dg l = []
  · rw [if_pos ((nDig_zero _).2 c1), if_pos c1]
    trivial
  · rw [if_neg (fun h => c1 ((nDig_zero _).1 h)), if_neg c1]
    by_cases c2 : leadL (dg l) = true
    · rw [if_pos c2, if_pos c2]
      trivial
    · rw [if_neg c2, if_neg c2]
      by_cases c3 : pHas [46] (dr l) = true
      · rw [if_pos c3, if_pos c3]
        rw [pSkip, if_pos c3] at h3
        have h4 := digF_list y
        have h5 := digR_list y
        have hE := numE_same neg (w ++ digF y) (digF y).size (digR y)
        rw [append_list, hD, h5] at hE
        rw [h4] at hE
        rw [h3] at hE ⊢
        rw [show (digF y).size = (dg (dr l).tail).length from by rw [← dlen, h4, h3]] at hE ⊢
        by_cases c4 : dg (dr l).tail = []
        · rw [if_pos ((nDig_zero _).2 c4), if_pos c4]
          trivial
        · rw [if_neg (fun h => c4 ((nDig_zero _).1 h)), if_neg c4]
          exact hE
      · rw [if_neg c3, if_neg c3]
        rw [pSkip, if_neg c3] at h3
        have hE := numE_same neg (w ++ ⟨#[]⟩) 0 y
        rw [append_list, hD, h3] at hE
        rw [show (ByteArray.mk #[]).data.toList = [] from rfl, List.append_nil] at hE
        exact hE
end Go.Proofs.YtmkdcokdilllcaaDoor.X
/- What the code says of a text. -/
namespace Go.Proofs.YtmkdcokdilllcaaDoor.X
open Go.RowKit Go.Proofs.YtmkdcokdilllcaaDoorW.PrintWords Go.Proofs.YtmkdcokdilllcaaDoorW.PrintMore
set_option linter.unusedVariables false
set_option linter.unusedSimpArgs false
theorem dg_mem {l : List UInt8} {c : UInt8} (h : c ∈ dg l) : isDig c = true := mem_takeWhile h
theorem dg_le (l : List UInt8) : (dg l).length ≤ l.length := nDig_le l
theorem dr_le (l : List UInt8) : (dg l).length + (dr l).length = l.length := by
  have := nDig_le l
  rw [dg_length, dr, List.length_drop]
  omega
theorem pSkip_le (t l : List UInt8) : (pSkip t l).length ≤ l.length := by
  unfold pSkip
  split
  · rw [List.length_tail]; omega
  · exact Nat.le_refl _
/-- What a reading holds. -/
def good (L : Nat) : Option (Bool × List UInt8 × Nat × Option (Bool × List UInt8)) → Prop
  | none => True
  | some (_, m, n, _) => m ≠ [] ∧ (∀ c ∈ m, isDig c = true) ∧ m.length ≤ L ∧ n ≤ L
theorem tailL_good (L : Nat) (neg : Bool) (m : List UInt8) (n : Nat) (l : List UInt8) (h1 : m ≠ []) (h2 : ∀ c ∈ m, isDig c = true) (h3 : m.length ≤ L) (h4 : n ≤ L) : good L (tailL neg m n l) := by
  unfold tailL
  generalize (if pHas [45] l.tail = true then l.tail.tail else pSkip [43] l.tail) = y
  split
  · split
    · trivial
    · split
      · exact ⟨h1, h2, h3, h4⟩
      · trivial
  · split
    · exact ⟨h1, h2, h3, h4⟩
    · trivial
theorem specL_good (l : List UInt8) : good l.length (specL l) := by
  unfold specL
  have h0 := pSkip_le [45] l
  generalize pSkip [45] l = x at *
  generalize pHas [45] l = neg at *
  have h1 := dr_le x
  by_cases c1 : dg x = []
  · rw [if_pos c1]; trivial
  · rw [if_neg c1]
    by_cases c2 : leadL (dg x) = true
    · rw [if_pos c2]; trivial
    · rw [if_neg c2]
      by_cases c3 : pHas [46] (dr x) = true
      · rw [if_pos c3]
        have h2 := dg_le (dr x).tail
        rw [List.length_tail] at h2
        by_cases c4 : dg (dr x).tail = []
        · rw [if_pos c4]; trivial
        · rw [if_neg c4]
          refine tailL_good _ _ _ _ _ ?_ ?_ ?_ ?_
          · intro h
            exact c1 (List.append_eq_nil_iff.1 h).1
          · intro c hc
            rcases List.mem_append.1 hc with h | h
            · exact dg_mem h
            · exact dg_mem h
          · rw [List.length_append]; omega
          · omega
      · rw [if_neg c3]
        exact tailL_good _ _ _ _ _ c1 (fun c hc => dg_mem hc) (by omega) (by omega)
theorem expN_bound (d : List UInt8) : 0 ≤ expN d ∧ expN d ≤ 1048576 := by
  unfold expN
  split
  · rename_i h
    refine ⟨Int.natCast_nonneg _, ?_⟩
    unfold dec
    rcases hn : Lib.decFrom 0 (Lib.trimLeftB d 48) with _ | n
    · simp
    · have h1 := decFrom_bound _ _ _ hn
      have h2 : 10 ^ (Lib.trimLeftB d 48).length ≤ 10 ^ 6 := Nat.pow_le_pow_right (by decide) h
      rw [Option.getD_some]
      omega
  · omega
theorem expL_bound (ex : Option (Bool × List UInt8)) : -1048576 ≤ expL ex ∧ expL ex ≤ 1048576 := by
  unfold expL
  rcases ex with _ | ⟨less, d⟩
  · simp
  · have := expN_bound d
    simp only
    split <;> omega
theorem dec_lt {m : List UInt8} (h : ∀ c ∈ m, isDig c = true) : Lib.decFrom 0 m = some (dec m) ∧ dec m < 10 ^ m.length := by
  obtain ⟨n, hn⟩ := decFrom_some m h 0
  have h1 := decFrom_bound _ _ _ hn
  rw [Nat.zero_add, Nat.one_mul] at h1
  unfold dec
  rw [hn]
  exact ⟨rfl, h1⟩
theorem dec_limbs {m : List UInt8} (h : ∀ c ∈ m, isDig c = true) : (lim (dec m)).length ≤ m.length :=
  lim_len_le (Nat.lt_of_lt_of_le (dec_lt h).2 (Nat.pow_le_pow_left (by decide) _))
theorem num_text (s : ByteArray) (hs : s.size ≤ 2000) : Ev (fun k => num_Parse.f k s) (resS (specL s.data.toList)) := by
  have hsame := numP_same s
  have hgood := specL_good s.data.toList
  rw [dlen] at hgood
  have hP : ∀ k, num_Parse.f k s = match numP s with
    | none => some (false, [], 0, 2)
    | some (neg, m, n, p) => numK k neg m n p := fun k => by
    unfold num_Parse.f numG
    rw [if_neg (by omega)]
    all_goals (rcases numP s with _ | ⟨neg, m, n, p⟩ <;> rfl)
  refine Ev.congr hP ?_
  generalize numP s = a at *
  generalize specL s.data.toList = b at *
  clear hP
  rcases a with _ | ⟨neg, m, n, p⟩
  · rcases b with _ | b
    · exact Ev.now _
    · exact hsame.elim
  · rcases b with _ | ⟨neg', m', n', ex⟩
    · exact hsame.elim
    · obtain ⟨rfl, rfl, rfl, rfl⟩ := hsame
      obtain ⟨g1, g2, g3, g4⟩ := hgood
      have hd := dec_lt g2
      have hl := dec_limbs g2
      have hx := expL_bound ex
      have hm := nat_parse m (by rw [dlen] at g3; omega) (fun h => g1 ((size_list m).1 h)) _ hd.1
      have hk := num_make (lim_ok (dec m.data.toList)) (by omega) neg (expL ex - n') (by omega) (by omega)
      rw [val_lim] at hk
      have hw : wrap64 (expL ex - (n' : Int)) = expL ex - n' := wrap64_ok (by omega) (by omega)
      refine Ev.congr (f := fun k => (nat_Parse.f k m).bind fun r => (num_Make.f k neg r.1 (expL ex - n')).bind fun q => if q.2.2.2 = false ∨ (0 < q.2.1.length ∧ (expL ex = 1048576 ∨ expL ex = -1048576)) then some (false, [], 0, 4) else some (q.1, q.2.1, q.2.2.1, 0)) (fun k => ?_) ?_
      · simp only [numK, hw]
      · refine Ev.bind hm (Ev.bind hk ?_)
        simp only [resS]
        exact Ev.congr (fun k => (apply_ite some _ _ _).symm) (Ev.now _)
end Go.Proofs.YtmkdcokdilllcaaDoor.X
/- Decimal digits as lists; what a text put together of digits says. -/
namespace Go.Proofs.YtmkdcokdilllcaaDoor.X
open Go.RowKit Go.Proofs.YtmkdcokdilllcaaDoorW.PrintWords Go.Proofs.YtmkdcokdilllcaaDoorW.PrintMore
set_option linter.unusedVariables false
set_option linter.unusedSimpArgs false
theorem decFrom_append (l m : List UInt8) (a : Nat) : Lib.decFrom a (l ++ m) = (Lib.decFrom a l).bind fun n => Lib.decFrom n m := by
  induction l generalizing a with
  | nil => rfl
  | cons b r ih =>
    simp only [List.cons_append, Lib.decFrom]
    rcases Lib.digitVal b with _ | d
    · rfl
    · exact ih _
theorem digitVal_ok {v : Nat} (h : v < 10) : Lib.digitVal (UInt8.ofNat (48 + v)) = some v := by
  have h1 : (UInt8.ofNat (48 + v)).toNat = 48 + v := by rw [UInt8.toNat_ofNat']; omega
  unfold Lib.digitVal
  rw [h1, if_pos (by omega)]
  congr 1
  omega
theorem isDig_ok {v : Nat} (h : v < 10) : isDig (UInt8.ofNat (48 + v)) = true := by
  have h1 : (UInt8.ofNat (48 + v)).toNat = 48 + v := by rw [UInt8.toNat_ofNat']; omega
  unfold isDig
  rw [h1]
  simp
  omega
theorem decFrom_digits (n : Nat) : ∀ a, Lib.decFrom a (Lib.decDigits n) = some (a * 10 ^ Lib.nDigits n + n) := by
  induction n using Nat.strongRecOn with
  | _ n ih =>
    intro a
    by_cases h : n < 10
    · rw [Lib.decDigits, dif_pos h, Lib.nDigits_small h]
      simp only [Lib.decFrom, digitVal_ok h, Nat.pow_one]
    · rw [Lib.decDigits, dif_neg h, decFrom_append, ih (n / 10) (by omega), Lib.nDigits_big h]
      simp only [Option.bind_some, Lib.decFrom, digitVal_ok (show n % 10 < 10 by omega), Nat.pow_succ, Nat.add_mul, Nat.mul_assoc]
      congr 1
      omega
theorem dec_digits (n : Nat) : dec (Lib.decDigits n) = n := by
  unfold dec
  rw [decFrom_digits]
  simp
theorem dig_digits (n : Nat) : ∀ c ∈ Lib.decDigits n, isDig c = true := by
  induction n using Nat.strongRecOn with
  | _ n ih =>
    intro c hc
    by_cases h : n < 10
    · rw [Lib.decDigits, dif_pos h] at hc
      rw [List.mem_singleton.1 hc]
      exact isDig_ok h
    · rw [Lib.decDigits, dif_neg h] at hc
      rcases List.mem_append.1 hc with hc | hc
      · exact ih (n / 10) (by omega) c hc
      · rw [List.mem_singleton.1 hc]
        exact isDig_ok (by omega)
theorem digits_ne (n : Nat) : Lib.decDigits n ≠ [] := by
  intro h
  have := Lib.decDigits_length n
  have := Lib.nDigits_pos n
  rw [h] at *
  simp at *
  omega
theorem digits_head (n : Nat) (h0 : n ≠ 0) : (Lib.decDigits n).headD 0 ≠ 48 := by
  induction n using Nat.strongRecOn with
  | _ n ih =>
    by_cases h : n < 10
    · rw [Lib.decDigits, dif_pos h]
      intro hc
      have h1 : (UInt8.ofNat (48 + n)).toNat = 48 + n := by rw [UInt8.toNat_ofNat']; omega
      simp only [List.headD_cons] at hc
      rw [hc] at h1
      have : (48 : UInt8).toNat = 48 := rfl
      omega
    · rw [Lib.decDigits, dif_neg h]
      have := ih (n / 10) (by omega) (by omega)
      have hn := digits_ne (n / 10)
      generalize Lib.decDigits (n / 10) = l at *
      rcases l with _ | ⟨a, l⟩
      · exact (hn rfl).elim
      · exact this
theorem digits_len_le {n k : Nat} (hk : 0 < k) (h : n < 10 ^ k) : (Lib.decDigits n).length ≤ k := by
  rw [Lib.decDigits_length]
  induction k generalizing n with
  | zero => omega
  | succ k ih =>
    by_cases hn : n < 10
    · rw [Lib.nDigits_small hn]; omega
    · rw [Lib.nDigits_big hn]
      rw [Nat.pow_succ] at h
      have : k ≠ 0 := by rintro rfl; simp at h; omega
      have := @ih (n / 10) (by omega) (by omega)
      omega
theorem digits_lim {l : List Int} (h : Ok l) (hl : 0 < l.length) : (Lib.decDigits (val l)).length ≤ 10 * l.length := by
  refine digits_len_le (by omega) (Nat.lt_of_lt_of_le (val_lt h) ?_)
  rw [Nat.pow_mul]
  exact Nat.pow_le_pow_left (by decide) _
theorem decFrom_zeros (k a : Nat) : Lib.decFrom a (List.replicate k 48) = some (a * 10 ^ k) := by
  induction k generalizing a with
  | zero => simp [Lib.decFrom]
  | succ k ih =>
    rw [List.replicate_succ, Lib.decFrom, show Lib.digitVal 48 = some 0 from rfl]
    simp only
    rw [ih, Nat.pow_succ, Nat.add_zero, Nat.mul_assoc, Nat.mul_comm (10 ^ k) 10]
theorem rep_zeros (k : Nat) : Lib.repeatL [48] k = List.replicate k 48 := by
  induction k with
  | zero => rfl
  | succ k ih => rw [Lib.repeatL, ih, List.replicate_succ]; rfl
theorem dig_zeros (k : Nat) : ∀ c ∈ List.replicate k (48 : UInt8), isDig c = true := fun c hc => by
  rw [(List.mem_replicate.1 hc).2]; rfl
/-- No digit ahead. -/
def stopD : List UInt8 → Prop
  | [] => True
  | c :: _ => isDig c = false
theorem dg_app {w r : List UInt8} (hw : ∀ c ∈ w, isDig c = true) (hr : stopD r) : dg (w ++ r) = w := by
  unfold dg
  rw [List.takeWhile_append_of_pos hw]
  rcases r with _ | ⟨c, r⟩
  · simp
  · rw [List.takeWhile_cons, if_neg (by rw [show isDig c = false from hr]; decide), List.append_nil]
theorem dr_app {w r : List UInt8} (hw : ∀ c ∈ w, isDig c = true) (hr : stopD r) : dr (w ++ r) = r := by
  unfold dr
  rw [← dg_length, dg_app hw hr, List.drop_left]
theorem dg_stop {r : List UInt8} (hr : stopD r) : dg r = [] := by
  have := dg_app (w := []) (r := r) (fun c hc => by simp at hc) hr
  simpa using this
def sgn (neg : Bool) : List UInt8 := if neg = true then [45] else []
def frac : Option (List UInt8) → List UInt8
  | none => []
  | some f => 46 :: f
/-- An exponent: its letter, whether below 0, whether a plus stands ahead, its digits. -/
def expo : Option (UInt8 × Bool × Bool × List UInt8) → List UInt8
  | none => []
  | some (c, less, plus, d) => c :: ((if less = true then [45] else if plus = true then [43] else []) ++ d)
def expOk : Option (UInt8 × Bool × Bool × List UInt8) → Prop
  | none => True
  | some (c, _, _, d) => (c = 101 ∨ c = 69) ∧ d ≠ [] ∧ ∀ x ∈ d, isDig x = true
def expP : Option (UInt8 × Bool × Bool × List UInt8) → Option (Bool × List UInt8)
  | none => none
  | some (_, less, _, d) => some (less, d)
theorem pHas_dig {t w r : List UInt8} (hw : ∀ c ∈ w, isDig c = true) (h0 : w ≠ []) (ht : ∀ c ∈ t, isDig c = false) : pHas t (w ++ r) = false := by
  rcases w with _ | ⟨c, w⟩
  · exact (h0 rfl).elim
  · simp only [List.cons_append, pHas, decide_eq_false_iff_not]
    intro hc
    have h1 := hw c (by simp)
    rw [ht c hc] at h1
    cases h1
theorem d45 : ∀ c ∈ ([45] : List UInt8), isDig c = false := by decide
theorem d43 : ∀ c ∈ ([43] : List UInt8), isDig c = false := by decide
theorem tail_some (neg : Bool) (m : List UInt8) (n : Nat) (c : UInt8) (less plus : Bool) (d r : List UInt8) (hx : expOk (some (c, less, plus, d))) (hr : stopD r) :
    tailL neg m n (expo (some (c, less, plus, d)) ++ r) = if r = [] then some (neg, m, n, some (less, d)) else none := by
  obtain ⟨hc, h0, hd⟩ := hx
  have h1 : pHas [101, 69] (expo (some (c, less, plus, d)) ++ r) = true := by
    simp only [expo, List.cons_append, pHas]
    rcases hc with rfl | rfl <;> decide
  unfold tailL
  rw [if_pos h1]
  have ht : (expo (some (c, less, plus, d)) ++ r).tail = (if less = true then [45] else if plus = true then [43] else []) ++ (d ++ r) := by
    simp only [expo, List.cons_append, List.tail_cons, List.append_assoc]
  rw [ht]
  have h2 : pHas [45] ((if less = true then [45] else if plus = true then [43] else []) ++ (d ++ r)) = less := by
    cases less
    · cases plus
      · exact pHas_dig (w := d) (r := r) hd h0 d45
      · rfl
    · rfl
  rw [h2]
  have h3 : (if less = true then ((if less = true then [45] else if plus = true then [43] else []) ++ (d ++ r)).tail else pSkip [43] ((if less = true then [45] else if plus = true then [43] else []) ++ (d ++ r))) = d ++ r := by
    cases less
    · cases plus
      · simp only [Bool.false_eq_true, if_false, List.nil_append]
        unfold pSkip
        rw [pHas_dig hd h0 d43]
        rfl
      · rfl
    · rfl
  rw [h3, dg_app hd hr, dr_app hd hr, if_neg h0]
theorem stop_expo {x : Option (UInt8 × Bool × Bool × List UInt8)} {r : List UInt8} (hx : expOk x) (hr : stopD r) : stopD (expo x ++ r) := by
  rcases x with _ | ⟨c, less, plus, d⟩
  · exact hr
  · obtain ⟨hc, _⟩ := hx
    show isDig c = false
    rcases hc with rfl | rfl <;> rfl
/-- The beginning of a text of a number. -/
theorem spec_sign (neg : Bool) (w r : List UInt8) (hw : ∀ c ∈ w, isDig c = true) (h0 : w ≠ []) : pSkip [45] (sgn neg ++ (w ++ r)) = w ++ r ∧ pHas [45] (sgn neg ++ (w ++ r)) = neg := by
  cases neg
  · have := pHas_dig (r := r) hw h0 d45
    simp only [sgn, Bool.false_eq_true, if_false, List.nil_append, pSkip, this]
    exact ⟨trivial, trivial⟩
  · exact ⟨rfl, rfl⟩
theorem spec_whole (neg : Bool) (w r : List UInt8) (hw : ∀ c ∈ w, isDig c = true) (h0 : w ≠ []) (hl : leadL w = false) (hr : stopD r) (hp : pHas [46] r = false) :
    specL (sgn neg ++ (w ++ r)) = tailL neg w 0 r := by
  obtain ⟨h1, h2⟩ := spec_sign neg w r hw h0
  unfold specL
  rw [h1, h2, dg_app hw hr, dr_app hw hr, if_neg h0, hl, hp]
  rfl
theorem spec_frac (neg : Bool) (w f r : List UInt8) (hw : ∀ c ∈ w, isDig c = true) (h0 : w ≠ []) (hl : leadL w = false) (hf : ∀ c ∈ f, isDig c = true) (hr : stopD r) :
    specL (sgn neg ++ (w ++ (46 :: (f ++ r)))) = if f = [] then none else tailL neg (w ++ f) f.length r := by
  have hs : stopD (46 :: (f ++ r)) := rfl
  obtain ⟨h1, h2⟩ := spec_sign neg w (46 :: (f ++ r)) hw h0
  unfold specL
  rw [h1, h2, dg_app hw hs, dr_app hw hs, if_neg h0, hl]
  rw [if_neg (by decide), if_pos (show pHas [46] (46 :: (f ++ r)) = true from rfl), List.tail_cons, dg_app hf hr, dr_app hf hr]
theorem spec_none {l : List UInt8} (h : dg (pSkip [45] l) = []) : specL l = none := by
  unfold specL
  rw [if_pos h]
end Go.Proofs.YtmkdcokdilllcaaDoor.X
