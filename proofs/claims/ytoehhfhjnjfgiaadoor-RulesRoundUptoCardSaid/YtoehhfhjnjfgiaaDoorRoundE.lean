/- Part of a proof of the statement Round; what it needs in which order stands in GOCLAIM.json. -/
import Derived.Shelf.Strings.Builder1
import Derived.Shelf.Small.Strs
import Derived.Shelf.Strings.BuilderF
import Derived.Shelf.Strings.BuilderK
import Derived.Shelf.Strconv.Atoi
import Derived.Shelf.Strconv.Itoa0
import Derived.Shelf.Strconv.Itoa1
import Derived.Shelf.LaysM
import Derived.Shelf.Strconv.Itoa2
import Derived.Shelf.Strconv.Itoa3
import Derived.Shelf.Strconv.AtoiErrFast
import Derived.Shelf.Strconv.ParseIntEmpty
import Derived.Shelf.Strconv.AtoiFail
import Derived.Shelf.Strconv.Clone
import Derived.Shelf.Strconv.SyntaxError
import Derived.Shelf.LaysC
import Derived.Shelf.Strconv.ToError
import Derived.Shelf.Strconv.Lower
import Derived.Shelf.Strconv.ParseUint10
import Derived.Shelf.Strconv.ParseUint10Empty
import Derived.Shelf.Strconv.ParseUint10Any
import Derived.Shelf.Strconv.RangeError
import Derived.Shelf.Strconv.ToErrorRange
import Derived.Shelf.Strconv.ParseUintEmpty
import Derived.Shelf.Strconv.ParseUint10b64
import Derived.Shelf.Strconv.ParseUint10b32
import Derived.Shelf.Strconv.ParseUint10b16
import Derived.Shelf.Strconv.ParseUint10b8
import Derived.Shelf.Strconv.ParseUint10At
import Derived.Shelf.Strings.Search1
import Derived.Shelf.Strings.Prefix
import Derived.Shelf.Strings.BuilderCap
import Derived.Shelf.Slices.Turned
import Derived.Test.YtoehhfhjnjfgiaaDoorProg
import Derived.Lib.AtoiBound
import Derived.Test.YtoehhfhjnjfgiaaDoorRoundD
namespace Go.Proofs
open Go.Shelf
def Tryd.lays169_ren : Go.Shelf.Ren := ⟨fun | 169 => 40 | n => n, fun | 70 => 77 | 9 => 9 | 0 => 0 | 72 => 80 | 37 => 78 | 127 => 93 | 3 => 3 | 5 => 5 | n => n, fun | n => n⟩
theorem Tryd.lays169 : Go.Proofs.Lays.n169 Tryd.prog Tryd.lays169_ren := {
  mixed := by kernel_rfl
  f169 := Tryd.func40.trans (congrArg some (by kernel_rfl))
  t0 := Tryd.underlying0
  a0 := Tryd.isAgg0
  z0 := Tryd.sizeOf0
  v0 := Tryd.zeroValue0
  t3 := Tryd.underlying3
  a3 := Tryd.isAgg3
  z3 := Tryd.sizeOf3
  v3 := Tryd.zeroValue3
  t9 := Tryd.underlying9
  a9 := Tryd.isAgg9
  z9 := Tryd.sizeOf9
  v9 := Tryd.zeroValue9
  t37 := Tryd.underlying78
  a37 := Tryd.isAgg78
  z37 := Tryd.sizeOf78
  v37 := Tryd.zeroValue78
  t70 := Tryd.underlying77
  a70 := Tryd.isAgg77
  z70 := Tryd.sizeOf77
  v70 := Tryd.zeroValue77
  t72 := Tryd.underlying80
  a72 := Tryd.isAgg80
  z72 := Tryd.sizeOf80
  v72 := Tryd.zeroValue80
  t127 := Tryd.underlying93
  a127 := Tryd.isAgg93
  z127 := Tryd.sizeOf93
  v127 := Tryd.zeroValue93 }
theorem Tryd.Builder_Extra_169 : Builder.Extra Tryd.prog Tryd.lays169_ren := {
  sizeBuilder := by kernel_rfl
  liesBuilder := by kernel_rfl
  t5 := Tryd.underlying5
  a5 := Tryd.isAgg5
  z5 := Tryd.sizeOf5
  v5 := Tryd.zeroValue5
  infoByte := by kernel_rfl
  cellsByte := by kernel_rfl
  sizeByte := by kernel_rfl
  neB5 := by decide }
def Tryd.lays137_ren : Go.Shelf.Ren := ⟨fun | 137 => 56 | 217 => 62 | 266 => 70 | n => n, fun | 9 => 9 | 5 => 5 | 3 => 3 | n => n, fun | n => n⟩
theorem Tryd.lays137 : Go.Proofs.Lays.n137 Tryd.prog Tryd.lays137_ren := {
  mixed := by kernel_rfl
  f137 := Tryd.func56.trans (congrArg some (by kernel_rfl))
  f217 := Tryd.func62.trans (congrArg some (by kernel_rfl))
  f266 := Tryd.func70.trans (congrArg some (by kernel_rfl))
  t3 := Tryd.underlying3
  a3 := Tryd.isAgg3
  z3 := Tryd.sizeOf3
  v3 := Tryd.zeroValue3
  t5 := Tryd.underlying5
  a5 := Tryd.isAgg5
  z5 := Tryd.sizeOf5
  v5 := Tryd.zeroValue5
  t9 := Tryd.underlying9
  a9 := Tryd.isAgg9
  z9 := Tryd.sizeOf9
  v9 := Tryd.zeroValue9 }
open Go.RowKit in

theorem Tryd.strings_IndexByte (s : ByteArray) (c : Int) (w : World) :
    Calls Tryd.prog 56 #[.string s, .int .u8 c] w fun e w' => e = .returned (.int .i64 (Lib.indexByte s.data.toList c.toNat.toUInt8)) ∧ w' = w := Any.strings_IndexByte Tryd.lays137 s c w
def Tryd.lays244_ren : Go.Shelf.Ren := ⟨fun | 244 => 64 | 247 => 71 | 287 => 81 | 321 => 86 | 322 => 87 | n => n, fun | 9 => 9 | 3 => 3 | 75 => 82 | 4 => 4 | 5 => 5 | 167 => 111 | 37 => 78 | 0 => 0 | 85 => 112 | 2 => 2 | 53 => 106 | 175 => 125 | 46 => 123 | 21 => 21 | 80 => 85 | n => n, fun | n => n⟩
theorem Tryd.lays244 : Go.Proofs.Lays.n244 Tryd.prog Tryd.lays244_ren := {
  mixed := by kernel_rfl
  f244 := Tryd.func64.trans (congrArg some (by kernel_rfl))
  f247 := Tryd.func71.trans (congrArg some (by kernel_rfl))
  f287 := Tryd.func81.trans (congrArg some (by kernel_rfl))
  f321 := Tryd.func86.trans (congrArg some (by kernel_rfl))
  f322 := Tryd.func87.trans (congrArg some (by kernel_rfl))
  t0 := Tryd.underlying0
  a0 := Tryd.isAgg0
  z0 := Tryd.sizeOf0
  v0 := Tryd.zeroValue0
  t2 := Tryd.underlying2
  a2 := Tryd.isAgg2
  z2 := Tryd.sizeOf2
  v2 := Tryd.zeroValue2
  t3 := Tryd.underlying3
  a3 := Tryd.isAgg3
  z3 := Tryd.sizeOf3
  v3 := Tryd.zeroValue3
  t4 := Tryd.underlying4
  a4 := Tryd.isAgg4
  z4 := Tryd.sizeOf4
  v4 := Tryd.zeroValue4
  t5 := Tryd.underlying5
  a5 := Tryd.isAgg5
  z5 := Tryd.sizeOf5
  v5 := Tryd.zeroValue5
  t9 := Tryd.underlying9
  a9 := Tryd.isAgg9
  z9 := Tryd.sizeOf9
  v9 := Tryd.zeroValue9
  t21 := Tryd.underlying21
  a21 := Tryd.isAgg21
  z21 := Tryd.sizeOf21
  v21 := Tryd.zeroValue21
  t37 := Tryd.underlying78
  a37 := Tryd.isAgg78
  z37 := Tryd.sizeOf78
  v37 := Tryd.zeroValue78
  t46 := Tryd.underlying123
  a46 := Tryd.isAgg123
  z46 := Tryd.sizeOf123
  v46 := Tryd.zeroValue123
  t53 := Tryd.underlying106
  a53 := Tryd.isAgg106
  z53 := Tryd.sizeOf106
  v53 := Tryd.zeroValue106
  t75 := Tryd.underlying82
  a75 := Tryd.isAgg82
  z75 := Tryd.sizeOf82
  v75 := Tryd.zeroValue82
  t85 := Tryd.underlying112
  a85 := Tryd.isAgg112
  z85 := Tryd.sizeOf112
  v85 := Tryd.zeroValue112
  t167 := Tryd.underlying111
  a167 := Tryd.isAgg111
  z167 := Tryd.sizeOf111
  v167 := Tryd.zeroValue111
  t175 := Tryd.underlying125
  a175 := Tryd.isAgg125
  z175 := Tryd.sizeOf125
  v175 := Tryd.zeroValue125 }
def Tryd.lays172_ren : Go.Shelf.Ren := ⟨fun | 172 => 58 | 244 => 64 | 245 => 65 | 247 => 71 | 279 => 72 | 280 => 73 | 281 => 74 | 282 => 75 | 287 => 81 | 316 => 82 | 171 => 39 | 205 => 83 | 321 => 86 | 322 => 87 | 243 => 54 | 246 => 61 | 283 => 66 | 284 => 67 | 285 => 68 | 286 => 69 | 129 => 77 | 317 => 76 | 318 => 78 | 319 => 79 | 320 => 80 | 337 => 84 | 338 => 85 | n => n, fun | 9 => 9 | 3 => 3 | 75 => 82 | 76 => 83 | 4 => 4 | 5 => 5 | 167 => 111 | 37 => 78 | 0 => 0 | 85 => 112 | 2 => 2 | 168 => 114 | 53 => 106 | 175 => 125 | 46 => 123 | 210 => 129 | 127 => 93 | 145 => 135 | 143 => 133 | 21 => 21 | 171 => 105 | 173 => 109 | 212 => 119 | 51 => 120 | 20 => 20 | 213 => 121 | 232 => 136 | 233 => 137 | 80 => 85 | n => n, fun | 15 => 6 | 16 => 7 | 17 => 4 | 18 => 8 | 19 => 9 | n => n⟩
theorem Tryd.lays172 : Go.Proofs.Lays.n172 Tryd.prog Tryd.lays172_ren := {
  mixed := by kernel_rfl
  f129 := Tryd.func77.trans (congrArg some (by kernel_rfl))
  f171 := Tryd.func39.trans (congrArg some (by kernel_rfl))
  f172 := Tryd.func58.trans (congrArg some (by kernel_rfl))
  f205 := Tryd.func83.trans (congrArg some (by kernel_rfl))
  f243 := Tryd.func54.trans (congrArg some (by kernel_rfl))
  f244 := Tryd.func64.trans (congrArg some (by kernel_rfl))
  f245 := Tryd.func65.trans (congrArg some (by kernel_rfl))
  f246 := Tryd.func61.trans (congrArg some (by kernel_rfl))
  f247 := Tryd.func71.trans (congrArg some (by kernel_rfl))
  f279 := Tryd.func72.trans (congrArg some (by kernel_rfl))
  f280 := Tryd.func73.trans (congrArg some (by kernel_rfl))
  f281 := Tryd.func74.trans (congrArg some (by kernel_rfl))
  f282 := Tryd.func75.trans (congrArg some (by kernel_rfl))
  f283 := Tryd.func66.trans (congrArg some (by kernel_rfl))
  f284 := Tryd.func67.trans (congrArg some (by kernel_rfl))
  f285 := Tryd.func68.trans (congrArg some (by kernel_rfl))
  f286 := Tryd.func69.trans (congrArg some (by kernel_rfl))
  f287 := Tryd.func81.trans (congrArg some (by kernel_rfl))
  f316 := Tryd.func82.trans (congrArg some (by kernel_rfl))
  f317 := Tryd.func76.trans (congrArg some (by kernel_rfl))
  f318 := Tryd.func78.trans (congrArg some (by kernel_rfl))
  f319 := Tryd.func79.trans (congrArg some (by kernel_rfl))
  f320 := Tryd.func80.trans (congrArg some (by kernel_rfl))
  f321 := Tryd.func86.trans (congrArg some (by kernel_rfl))
  f322 := Tryd.func87.trans (congrArg some (by kernel_rfl))
  f337 := Tryd.func84.trans (congrArg some (by kernel_rfl))
  f338 := Tryd.func85.trans (congrArg some (by kernel_rfl))
  t0 := Tryd.underlying0
  a0 := Tryd.isAgg0
  z0 := Tryd.sizeOf0
  v0 := Tryd.zeroValue0
  t2 := Tryd.underlying2
  a2 := Tryd.isAgg2
  z2 := Tryd.sizeOf2
  v2 := Tryd.zeroValue2
  t3 := Tryd.underlying3
  a3 := Tryd.isAgg3
  z3 := Tryd.sizeOf3
  v3 := Tryd.zeroValue3
  t4 := Tryd.underlying4
  a4 := Tryd.isAgg4
  z4 := Tryd.sizeOf4
  v4 := Tryd.zeroValue4
  t5 := Tryd.underlying5
  a5 := Tryd.isAgg5
  z5 := Tryd.sizeOf5
  v5 := Tryd.zeroValue5
  t9 := Tryd.underlying9
  a9 := Tryd.isAgg9
  z9 := Tryd.sizeOf9
  v9 := Tryd.zeroValue9
  t20 := Tryd.underlying20
  a20 := Tryd.isAgg20
  z20 := Tryd.sizeOf20
  v20 := Tryd.zeroValue20
  t21 := Tryd.underlying21
  a21 := Tryd.isAgg21
  z21 := Tryd.sizeOf21
  v21 := Tryd.zeroValue21
  t37 := Tryd.underlying78
  a37 := Tryd.isAgg78
  z37 := Tryd.sizeOf78
  v37 := Tryd.zeroValue78
  t46 := Tryd.underlying123
  a46 := Tryd.isAgg123
  z46 := Tryd.sizeOf123
  v46 := Tryd.zeroValue123
  t51 := Tryd.underlying120
  a51 := Tryd.isAgg120
  z51 := Tryd.sizeOf120
  v51 := Tryd.zeroValue120
  t53 := Tryd.underlying106
  a53 := Tryd.isAgg106
  z53 := Tryd.sizeOf106
  v53 := Tryd.zeroValue106
  t75 := Tryd.underlying82
  a75 := Tryd.isAgg82
  z75 := Tryd.sizeOf82
  v75 := Tryd.zeroValue82
  t76 := Tryd.underlying83
  a76 := Tryd.isAgg83
  z76 := Tryd.sizeOf83
  v76 := Tryd.zeroValue83
  t85 := Tryd.underlying112
  a85 := Tryd.isAgg112
  z85 := Tryd.sizeOf112
  v85 := Tryd.zeroValue112
  t127 := Tryd.underlying93
  a127 := Tryd.isAgg93
  z127 := Tryd.sizeOf93
  v127 := Tryd.zeroValue93
  t143 := Tryd.underlying133
  a143 := Tryd.isAgg133
  z143 := Tryd.sizeOf133
  v143 := Tryd.zeroValue133
  t145 := Tryd.underlying135
  a145 := Tryd.isAgg135
  z145 := Tryd.sizeOf135
  v145 := Tryd.zeroValue135
  t167 := Tryd.underlying111
  a167 := Tryd.isAgg111
  z167 := Tryd.sizeOf111
  v167 := Tryd.zeroValue111
  t168 := Tryd.underlying114
  a168 := Tryd.isAgg114
  z168 := Tryd.sizeOf114
  v168 := Tryd.zeroValue114
  t171 := Tryd.underlying105
  a171 := Tryd.isAgg105
  z171 := Tryd.sizeOf105
  v171 := Tryd.zeroValue105
  t173 := Tryd.underlying109
  a173 := Tryd.isAgg109
  z173 := Tryd.sizeOf109
  v173 := Tryd.zeroValue109
  t175 := Tryd.underlying125
  a175 := Tryd.isAgg125
  z175 := Tryd.sizeOf125
  v175 := Tryd.zeroValue125
  t210 := Tryd.underlying129
  a210 := Tryd.isAgg129
  z210 := Tryd.sizeOf129
  v210 := Tryd.zeroValue129
  t212 := Tryd.underlying119
  a212 := Tryd.isAgg119
  z212 := Tryd.sizeOf119
  v212 := Tryd.zeroValue119
  t213 := Tryd.underlying121
  a213 := Tryd.isAgg121
  z213 := Tryd.sizeOf121
  t232 := Tryd.underlying136
  a232 := Tryd.isAgg136
  z232 := Tryd.sizeOf136
  v232 := Tryd.zeroValue136
  t233 := Tryd.underlying137
  a233 := Tryd.isAgg137
  z233 := Tryd.sizeOf137
  v233 := Tryd.zeroValue137
  g15 := by kernel_rfl
  g16 := by kernel_rfl
  g17 := by kernel_rfl
  g18 := by kernel_rfl
  g19 := by kernel_rfl }
open Go.RowKit in

theorem Tryd.strconv_Atoi (s : ByteArray) (n : Int) (hl : s.size ≤ 18) (h : Lib.atoi s.data.toList = some n) (w : World) :
    Calls Tryd.prog 58 #[.string s] w fun e w' => e = .returned (.tuple #[.int .i64 n, .nilIface]) ∧ ∃ t, w' = Lib.bytesWorld w 5 t := Any.strconv_Atoi Tryd.lays172 s n hl h w
def Tryd.laysM171_ren : Go.Shelf.Ren := ⟨fun | 171 => 39 | 243 => 54 | 246 => 61 | 283 => 66 | 284 => 67 | 285 => 68 | 286 => 69 | 129 => 77 | 317 => 76 | 318 => 78 | 319 => 79 | 320 => 80 | 337 => 84 | 338 => 85 | n => n, fun | 3 => 3 | 9 => 9 | 2 => 2 | 4 => 4 | 171 => 105 | 0 => 0 | 53 => 106 | 37 => 78 | 5 => 5 | 173 => 109 | 212 => 119 | 51 => 120 | 20 => 20 | 213 => 121 | 46 => 123 | 232 => 136 | 233 => 137 | n => n, fun | 17 => 4 | 18 => 8 | 19 => 9 | n => n⟩
theorem Tryd.laysM171 : Go.Proofs.LaysM.n171 Tryd.prog Tryd.laysM171_ren := {
  mixed := by kernel_rfl
  f129 := Tryd.func77.trans (congrArg some (by kernel_rfl))
  f171 := Tryd.func39.trans (congrArg some (by kernel_rfl))
  f243 := Tryd.func54.trans (congrArg some (by kernel_rfl))
  f246 := Tryd.func61.trans (congrArg some (by kernel_rfl))
  f283 := Tryd.func66.trans (congrArg some (by kernel_rfl))
  f284 := Tryd.func67.trans (congrArg some (by kernel_rfl))
  f285 := Tryd.func68.trans (congrArg some (by kernel_rfl))
  f286 := Tryd.func69.trans (congrArg some (by kernel_rfl))
  f317 := Tryd.func76.trans (congrArg some (by kernel_rfl))
  f318 := Tryd.func78.trans (congrArg some (by kernel_rfl))
  f319 := Tryd.func79.trans (congrArg some (by kernel_rfl))
  f320 := Tryd.func80.trans (congrArg some (by kernel_rfl))
  f337 := Tryd.func84.trans (congrArg some (by kernel_rfl))
  f338 := Tryd.func85.trans (congrArg some (by kernel_rfl))
  t0 := Tryd.underlying0
  a0 := Tryd.isAgg0
  z0 := Tryd.sizeOf0
  v0 := Tryd.zeroValue0
  t2 := Tryd.underlying2
  a2 := Tryd.isAgg2
  z2 := Tryd.sizeOf2
  v2 := Tryd.zeroValue2
  t3 := Tryd.underlying3
  a3 := Tryd.isAgg3
  z3 := Tryd.sizeOf3
  v3 := Tryd.zeroValue3
  t4 := Tryd.underlying4
  a4 := Tryd.isAgg4
  z4 := Tryd.sizeOf4
  v4 := Tryd.zeroValue4
  t5 := Tryd.underlying5
  a5 := Tryd.isAgg5
  z5 := Tryd.sizeOf5
  v5 := Tryd.zeroValue5
  t9 := Tryd.underlying9
  a9 := Tryd.isAgg9
  z9 := Tryd.sizeOf9
  v9 := Tryd.zeroValue9
  t20 := Tryd.underlying20
  a20 := Tryd.isAgg20
  z20 := Tryd.sizeOf20
  v20 := Tryd.zeroValue20
  t37 := Tryd.underlying78
  a37 := Tryd.isAgg78
  z37 := Tryd.sizeOf78
  v37 := Tryd.zeroValue78
  t46 := Tryd.underlying123
  a46 := Tryd.isAgg123
  z46 := Tryd.sizeOf123
  v46 := Tryd.zeroValue123
  t51 := Tryd.underlying120
  a51 := Tryd.isAgg120
  z51 := Tryd.sizeOf120
  v51 := Tryd.zeroValue120
  t53 := Tryd.underlying106
  a53 := Tryd.isAgg106
  z53 := Tryd.sizeOf106
  v53 := Tryd.zeroValue106
  t171 := Tryd.underlying105
  a171 := Tryd.isAgg105
  z171 := Tryd.sizeOf105
  v171 := Tryd.zeroValue105
  t173 := Tryd.underlying109
  a173 := Tryd.isAgg109
  z173 := Tryd.sizeOf109
  v173 := Tryd.zeroValue109
  t212 := Tryd.underlying119
  a212 := Tryd.isAgg119
  z212 := Tryd.sizeOf119
  v212 := Tryd.zeroValue119
  t213 := Tryd.underlying121
  a213 := Tryd.isAgg121
  z213 := Tryd.sizeOf121
  t232 := Tryd.underlying136
  a232 := Tryd.isAgg136
  z232 := Tryd.sizeOf136
  v232 := Tryd.zeroValue136
  t233 := Tryd.underlying137
  a233 := Tryd.isAgg137
  z233 := Tryd.sizeOf137
  v233 := Tryd.zeroValue137
  g17 := by kernel_rfl
  g18 := by kernel_rfl
  g19 := by kernel_rfl
  i0 := by kernel_rfl
  i2 := by kernel_rfl
  i3 := by kernel_rfl
  i4 := by kernel_rfl
  i5 := by kernel_rfl
  i9 := by kernel_rfl
  i20 := by kernel_rfl
  i37 := by kernel_rfl
  i46 := by kernel_rfl
  i51 := by kernel_rfl
  i53 := by kernel_rfl
  i171 := by kernel_rfl
  i173 := by kernel_rfl
  i212 := by kernel_rfl
  i232 := by kernel_rfl
  i233 := by kernel_rfl
  m17 := by kernel_rfl
  m18 := by kernel_rfl
  m19 := by kernel_rfl }
open Go.RowKit Go.Sort Go.Lib in

theorem Tryd.strconv_Itoa (n : Int) (h0 : -9223372036854775808 ≤ n) (h1 : n ≤ 9223372036854775807) (w : World) (htab : Lib.TabIs Tryd.prog w "internal/strconv.uint64pow10" .u64 Lib.pow10Tab) :
    Calls Tryd.prog 39 #[.int .i64 n] w fun e w' => e = .returned (.string ⟨(Lib.itoa n).toArray⟩) ∧ ∃ k os, w' = grow (w.drewN k) os := Any.strconv_Itoa Tryd.laysM171 n h0 h1 w htab
open Go.RowKit in

theorem Tryd.internal_strconv_Atoi_fail (s : ByteArray) (hl : s.size ≤ 18) (h : Lib.atoi s.data.toList = none) (w : World) :
    Calls Tryd.prog 64 #[.string s] w fun e w' => e = .returned (.tuple #[.int .i64 0, (.iface 111 (.int .i64 2))]) ∧ (w' = w ∨ ∃ t, w' = Lib.bytesWorld w 5 t) := Any.internal_strconv_Atoi_fail Tryd.lays244 s hl h w
def Tryd.laysC245_ren : Go.Shelf.Ren := ⟨fun | 245 => 65 | 279 => 72 | 280 => 73 | 281 => 74 | 282 => 75 | 316 => 82 | 171 => 39 | 205 => 83 | 243 => 54 | 246 => 61 | 283 => 66 | 284 => 67 | 285 => 68 | 286 => 69 | 129 => 77 | 317 => 76 | 318 => 78 | 319 => 79 | 320 => 80 | 337 => 84 | 338 => 85 | n => n, fun | 9 => 9 | 3 => 3 | 75 => 82 | 167 => 111 | 4 => 4 | 168 => 114 | 210 => 129 | 37 => 78 | 0 => 0 | 127 => 93 | 145 => 135 | 143 => 133 | 2 => 2 | 171 => 105 | 53 => 106 | 5 => 5 | 173 => 109 | 212 => 119 | 51 => 120 | 20 => 20 | 213 => 121 | 46 => 123 | 232 => 136 | 233 => 137 | 80 => 85 | n => n, fun | 15 => 6 | 16 => 7 | 17 => 4 | 18 => 8 | 19 => 9 | n => n⟩
theorem Tryd.laysC245 : Go.Proofs.LaysC.n245 Tryd.prog Tryd.laysC245_ren := {
  mixed := by kernel_rfl
  f129 := Tryd.func77.trans (congrArg some (by kernel_rfl))
  f171 := Tryd.func39.trans (congrArg some (by kernel_rfl))
  f205 := Tryd.func83.trans (congrArg some (by kernel_rfl))
  f243 := Tryd.func54.trans (congrArg some (by kernel_rfl))
  f245 := Tryd.func65.trans (congrArg some (by kernel_rfl))
  f246 := Tryd.func61.trans (congrArg some (by kernel_rfl))
  f279 := Tryd.func72.trans (congrArg some (by kernel_rfl))
  f280 := Tryd.func73.trans (congrArg some (by kernel_rfl))
  f281 := Tryd.func74.trans (congrArg some (by kernel_rfl))
  f282 := Tryd.func75.trans (congrArg some (by kernel_rfl))
  f283 := Tryd.func66.trans (congrArg some (by kernel_rfl))
  f284 := Tryd.func67.trans (congrArg some (by kernel_rfl))
  f285 := Tryd.func68.trans (congrArg some (by kernel_rfl))
  f286 := Tryd.func69.trans (congrArg some (by kernel_rfl))
  f316 := Tryd.func82.trans (congrArg some (by kernel_rfl))
  f317 := Tryd.func76.trans (congrArg some (by kernel_rfl))
  f318 := Tryd.func78.trans (congrArg some (by kernel_rfl))
  f319 := Tryd.func79.trans (congrArg some (by kernel_rfl))
  f320 := Tryd.func80.trans (congrArg some (by kernel_rfl))
  f337 := Tryd.func84.trans (congrArg some (by kernel_rfl))
  f338 := Tryd.func85.trans (congrArg some (by kernel_rfl))
  t0 := Tryd.underlying0
  a0 := Tryd.isAgg0
  z0 := Tryd.sizeOf0
  v0 := Tryd.zeroValue0
  t2 := Tryd.underlying2
  a2 := Tryd.isAgg2
  z2 := Tryd.sizeOf2
  v2 := Tryd.zeroValue2
  t3 := Tryd.underlying3
  a3 := Tryd.isAgg3
  z3 := Tryd.sizeOf3
  v3 := Tryd.zeroValue3
  t4 := Tryd.underlying4
  a4 := Tryd.isAgg4
  z4 := Tryd.sizeOf4
  v4 := Tryd.zeroValue4
  t5 := Tryd.underlying5
  a5 := Tryd.isAgg5
  z5 := Tryd.sizeOf5
  v5 := Tryd.zeroValue5
  t9 := Tryd.underlying9
  a9 := Tryd.isAgg9
  z9 := Tryd.sizeOf9
  v9 := Tryd.zeroValue9
  t20 := Tryd.underlying20
  a20 := Tryd.isAgg20
  z20 := Tryd.sizeOf20
  v20 := Tryd.zeroValue20
  t37 := Tryd.underlying78
  a37 := Tryd.isAgg78
  z37 := Tryd.sizeOf78
  v37 := Tryd.zeroValue78
  t46 := Tryd.underlying123
  a46 := Tryd.isAgg123
  z46 := Tryd.sizeOf123
  v46 := Tryd.zeroValue123
  t51 := Tryd.underlying120
  a51 := Tryd.isAgg120
  z51 := Tryd.sizeOf120
  v51 := Tryd.zeroValue120
  t53 := Tryd.underlying106
  a53 := Tryd.isAgg106
  z53 := Tryd.sizeOf106
  v53 := Tryd.zeroValue106
  t75 := Tryd.underlying82
  a75 := Tryd.isAgg82
  z75 := Tryd.sizeOf82
  v75 := Tryd.zeroValue82
  t127 := Tryd.underlying93
  a127 := Tryd.isAgg93
  z127 := Tryd.sizeOf93
  v127 := Tryd.zeroValue93
  t143 := Tryd.underlying133
  a143 := Tryd.isAgg133
  z143 := Tryd.sizeOf133
  v143 := Tryd.zeroValue133
  t145 := Tryd.underlying135
  a145 := Tryd.isAgg135
  z145 := Tryd.sizeOf135
  v145 := Tryd.zeroValue135
  t167 := Tryd.underlying111
  a167 := Tryd.isAgg111
  z167 := Tryd.sizeOf111
  v167 := Tryd.zeroValue111
  t168 := Tryd.underlying114
  a168 := Tryd.isAgg114
  z168 := Tryd.sizeOf114
  v168 := Tryd.zeroValue114
  t171 := Tryd.underlying105
  a171 := Tryd.isAgg105
  z171 := Tryd.sizeOf105
  v171 := Tryd.zeroValue105
  t173 := Tryd.underlying109
  a173 := Tryd.isAgg109
  z173 := Tryd.sizeOf109
  v173 := Tryd.zeroValue109
  t210 := Tryd.underlying129
  a210 := Tryd.isAgg129
  z210 := Tryd.sizeOf129
  v210 := Tryd.zeroValue129
  t212 := Tryd.underlying119
  a212 := Tryd.isAgg119
  z212 := Tryd.sizeOf119
  v212 := Tryd.zeroValue119
  t213 := Tryd.underlying121
  a213 := Tryd.isAgg121
  z213 := Tryd.sizeOf121
  t232 := Tryd.underlying136
  a232 := Tryd.isAgg136
  z232 := Tryd.sizeOf136
  v232 := Tryd.zeroValue136
  t233 := Tryd.underlying137
  a233 := Tryd.isAgg137
  z233 := Tryd.sizeOf137
  v233 := Tryd.zeroValue137
  g15 := by kernel_rfl
  g16 := by kernel_rfl
  g17 := by kernel_rfl
  g18 := by kernel_rfl
  g19 := by kernel_rfl
  t80 := Tryd.underlying85
  a80 := Tryd.isAgg85
  z80 := Tryd.sizeOf85
  v80 := Tryd.zeroValue85
  i0 := by kernel_rfl
  i2 := by kernel_rfl
  i3 := by kernel_rfl
  i4 := by kernel_rfl
  i5 := by kernel_rfl
  i9 := by kernel_rfl
  i20 := by kernel_rfl
  i37 := by kernel_rfl
  i46 := by kernel_rfl
  i51 := by kernel_rfl
  i53 := by kernel_rfl
  i75 := by kernel_rfl
  i80 := by kernel_rfl
  i127 := by kernel_rfl
  i143 := by kernel_rfl
  i145 := by kernel_rfl
  i167 := by kernel_rfl
  i168 := by kernel_rfl
  i171 := by kernel_rfl
  i173 := by kernel_rfl
  i210 := by kernel_rfl
  i212 := by kernel_rfl
  i232 := by kernel_rfl
  i233 := by kernel_rfl
  m15 := by kernel_rfl
  m16 := by kernel_rfl
  m17 := by kernel_rfl
  m18 := by kernel_rfl
  m19 := by kernel_rfl
  c0 := by kernel_rfl
  c2 := by kernel_rfl
  c3 := by kernel_rfl
  c4 := by kernel_rfl
  c5 := by kernel_rfl
  c9 := by kernel_rfl
  c20 := by kernel_rfl
  c37 := by kernel_rfl
  c46 := by kernel_rfl
  c51 := by kernel_rfl
  c53 := by kernel_rfl
  c75 := by kernel_rfl
  c80 := by kernel_rfl
  c127 := by kernel_rfl
  c143 := by kernel_rfl
  c145 := by kernel_rfl
  c167 := by kernel_rfl
  c168 := by kernel_rfl
  c171 := by kernel_rfl
  c173 := by kernel_rfl
  c210 := by kernel_rfl
  c212 := by kernel_rfl
  c213 := by kernel_rfl
  c232 := by kernel_rfl
  c233 := by kernel_rfl }
open Go.RowKit in

theorem Tryd.strconv_toError_syntax (fn s : ByteArray) (base bits : Int) (ev : Value) (w : World) (hlim : s.size ≤ 281474976710656) (hv : w.cell? ⟨6, 0, none⟩ = some ev) (hev : ev = .nilIface ∨ ∃ te pe, ev = .iface te pe) :
    Calls Tryd.prog 65 #[.string fn, .string s, .int .i64 base, .int .i64 bits, .iface 111 (.int .i64 2)] w fun e w' => ∃ N, e = .returned (.iface 114 (.pointer (some ⟨N, 0, none⟩))) ∧ w.heap.size ≤ N ∧ w'.heap[N]? = some (.cells #[.string fn, .string s, ev] 129 (0, 0)) ∧ Below w.heap.size w w' := Any.strconv_toError_syntax Tryd.laysC245 fn s base bits ev w hlim hv hev
def Tryd.lays99_ren : Go.Shelf.Ren := ⟨fun | 99 => 57 | 206 => 63 | n => n, fun | 9 => 9 | 4 => 4 | 3 => 3 | n => n, fun | n => n⟩
theorem Tryd.lays99 : Go.Proofs.Lays.n99 Tryd.prog Tryd.lays99_ren := {
  mixed := by kernel_rfl
  f99 := Tryd.func57.trans (congrArg some (by kernel_rfl))
  f206 := Tryd.func63.trans (congrArg some (by kernel_rfl))
  t3 := Tryd.underlying3
  a3 := Tryd.isAgg3
  z3 := Tryd.sizeOf3
  v3 := Tryd.zeroValue3
  t4 := Tryd.underlying4
  a4 := Tryd.isAgg4
  z4 := Tryd.sizeOf4
  v4 := Tryd.zeroValue4
  t9 := Tryd.underlying9
  a9 := Tryd.isAgg9
  z9 := Tryd.sizeOf9
  v9 := Tryd.zeroValue9 }
open Go.RowKit Go.Lib in

theorem Tryd.strings_HasPrefix (s p : ByteArray) (w : World) :
    Calls Tryd.prog 57 #[.string s, .string p] w fun e w' => e = .returned (.bool (Lib.hasPrefix s.data.toList p.data.toList)) ∧ w' = w := Any.strings_HasPrefix Tryd.lays99 s p w
end Go.Proofs
set_option maxRecDepth 100000
set_option linter.unusedSimpArgs false
set_option linter.unusedVariables false
namespace Go.Proofs.Tryd
open Go Go.DL Go.Sort
variable {G : Nat → D} {H : List O} {Q : D → List O → Prop}
theorem indexByte_call (l : List UInt8) (c : UInt8) (hQ : Q (dI (Lib.indexByte l c)) H) : CallA Tryd.prog G 56 [dS (str l), .lit (.int .u8 c.toNat)] H Q := by
  refine CallA.lits ⟨_, Tryd.func56, by kernel_rfl, by kernel_rfl⟩ [.string (str l), .int .u8 c.toNat] (fun _ => True) (fun _ _ _ _ _ => trivial) fun w _ => ?_
  refine (Tryd.strings_IndexByte (str l) c.toNat w).mono ?_
  rintro e w' ⟨rfl, rfl⟩
  refine ⟨_, _, rfl, fun c H => .lit _, RowKit.Below.refl _ _, ?_⟩
  rw [str_list]
  simpa using hQ
theorem hasPrefix_call (l p : List UInt8) (hQ : Q (dB (Lib.hasPrefix l p)) H) : CallA Tryd.prog G 57 [dS (str l), dS (str p)] H Q := by
  refine CallA.lits ⟨_, Tryd.func57, by kernel_rfl, by kernel_rfl⟩ [.string (str l), .string (str p)] (fun _ => True) (fun _ _ _ _ _ => trivial) fun w _ => ?_
  refine (Tryd.strings_HasPrefix (str l) (str p) w).mono ?_
  rintro e w' ⟨rfl, rfl⟩
  refine ⟨_, _, rfl, fun c H => .lit _, RowKit.Below.refl _ _, ?_⟩
  rw [str_list, str_list]
  exact hQ
theorem tab_of {F : Frm} {c : Conc} {w : World} (h : RelH F c H w) : Lib.TabIs Tryd.prog w "internal/strconv.uint64pow10" .u64 Lib.pow10Tab := by
  obtain ⟨h1, e, fz, h2⟩ := F.tab
  have h3 := (h.keeps.block _ h1).trans h2
  unfold Lib.TabIs World.var?
  have : Tryd.prog.globalNamed "internal/strconv.uint64pow10" = some 4 := by kernel_rfl
  rw [this]
  simp only [Option.bind_some]
  unfold tabAt at h3
  rw [h3]
theorem grow_below (w : World) (k : Nat) (os : Array Obj) : RowKit.Below w.heap.size w (grow (w.drewN k) os) := by
  refine ⟨rfl, rfl, rfl, by simp [grow, World.drewN], fun i hi => ?_⟩
  simp only [grow, World.drewN]
  rw [Array.getElem?_append_left hi]
theorem itoa_call (n : Int) (h0 : -9223372036854775808 ≤ n) (h1 : n ≤ 9223372036854775807) (hQ : Q (dS (str (Lib.itoa n))) H) : CallA Tryd.prog G 39 [dI n] H Q := by
  refine CallA.lits ⟨_, Tryd.func39, by kernel_rfl, by kernel_rfl⟩ [.int .i64 n] (fun w => Lib.TabIs Tryd.prog w "internal/strconv.uint64pow10" .u64 Lib.pow10Tab) (fun _ _ _ h _ => tab_of h) fun w hw => ?_
  refine (Tryd.strconv_Itoa n h0 h1 w hw).mono ?_
  rintro e w' ⟨rfl, k, os, rfl⟩
  exact ⟨_, _, rfl, fun c H => .lit _, grow_below _ _ _, hQ⟩
theorem atoi_ok (l : List UInt8) (hl : l.length ≤ 18) (n : Int) (h : Lib.atoi l = some n) (hQ : Q (.tup [dI n, .lit .nilIface]) H) : CallA Tryd.prog G 58 [dS (str l)] H Q := by
  refine CallA.lits ⟨_, Tryd.func58, by kernel_rfl, by kernel_rfl⟩ [.string (str l)] (fun _ => True) (fun _ _ _ _ _ => trivial) fun w _ => ?_
  refine (Tryd.strconv_Atoi (str l) n (by rw [str_size]; exact hl) (by rw [str_list]; exact h) w).mono ?_
  rintro e w' ⟨rfl, t, rfl⟩
  exact ⟨_, _, rfl, fun c H => RdV.tup2 (.lit _) (.lit _), Lib.bytesWorld_below _ _ _, hQ⟩
theorem atoi_in_bad (l : List UInt8) (hl : l.length ≤ 18) (h : Lib.atoi l = none) (hQ : Q (.tup [dI 0, .lit (.iface 111 (.int .i64 2))]) H) : CallA Tryd.prog G 64 [dS (str l)] H Q := by
  refine CallA.lits ⟨_, Tryd.func64, by kernel_rfl, by kernel_rfl⟩ [.string (str l)] (fun _ => True) (fun _ _ _ _ _ => trivial) fun w _ => ?_
  refine (Tryd.internal_strconv_Atoi_fail (str l) (by rw [str_size]; exact hl) (by rw [str_list]; exact h) w).mono ?_
  rintro e w' ⟨rfl, rfl | ⟨t, rfl⟩⟩
  · exact ⟨_, _, rfl, fun c H => RdV.tup2 (.lit _) (.lit _), RowKit.Below.refl _ _, hQ⟩
  · exact ⟨_, _, rfl, fun c H => RdV.tup2 (.lit _) (.lit _), Lib.bytesWorld_below _ _ _, hQ⟩
theorem toError_call (fn l : List UInt8) (hl : l.length ≤ 18) (hG : G 6 = .el [.nn] ∨ G 6 = .el [.lit .nilIface]) (hQ : Q .nn H) : CallA Tryd.prog G 65 [dS (str fn), dS (str l), dI 0, dI 0, .lit (.iface 111 (.int .i64 2))] H Q := by
  refine CallA.lits ⟨_, Tryd.func65, by kernel_rfl, by kernel_rfl⟩ [.string (str fn), .string (str l), .int .i64 0, .int .i64 0, .iface 111 (.int .i64 2)] (fun w => ∃ ev, w.cell? ⟨6, 0, none⟩ = some ev ∧ (ev = .nilIface ∨ ∃ te pe, ev = .iface te pe)) (fun F c w h1 h2 => ?_) fun w hw => ?_
  · have h3 := h2 6
    rcases hG with hG | hG
    · rw [hG] at h3
      obtain ⟨v, e1, e2⟩ := RdV.cell h1 h3 0 (by simp)
      refine ⟨v, by simpa [addr_add_zero] using e1, .inr ?_⟩
      simp only [List.getElem_cons_zero] at e2
      cases e2 with
      | nn t u => exact ⟨t, u, rfl⟩
    · rw [hG] at h3
      obtain ⟨v, e1, e2⟩ := RdV.cell h1 h3 0 (by simp)
      refine ⟨v, by simpa [addr_add_zero] using e1, .inl ?_⟩
      simp only [List.getElem_cons_zero] at e2
      cases e2; rfl
  · obtain ⟨ev, e1, e2⟩ := hw
    refine (Tryd.strconv_toError_syntax (str fn) (str l) 0 0 ev w (by rw [str_size]; omega) e1 e2).mono ?_
    rintro e w' ⟨N, rfl, h1, h2, h3⟩
    exact ⟨_, _, rfl, fun c H => .nn _ _, h3, hQ⟩
theorem atoi_bad (l : List UInt8) (hl : l.length ≤ 18) (h : Lib.atoi l = none) (hG : G 6 = .el [.nn] ∨ G 6 = .el [.lit .nilIface]) (hQ : Q (.tup [dI 0, .nn]) H) : CallA Tryd.prog G 58 [dS (str l)] H Q := by
  refine s58 (Nat.le_of_ble_eq_true rfl) ?_
  simp -dsimp -implicitDefEqProofs (maxSteps := 1000000) (disch := first | omega | (simp only [List.length_append, List.length_cons, List.length_nil]; omega) | (intros; simp only [ne_eq, reduceCtorEq, not_false_eq_true] <;> fail)) only [DL.R, Nat.reduceEqDiff, ↓reduceIte, reduceCtorEq, Int.reduceToNat, Int.reduceLE, Int.reduceLT, Nat.reduceLeDiff, Nat.reduceAdd, Nat.reduceMul, Int.reduceBNe, Int.reduceBEq, Int.cast_ofNat_Int, decide_true, decide_false, ne_eq, eq_self, implies_true, dc58_r0, dc58_r1, dc58_r2, dc58_r3, dc58_r4, dc58, DL.dI, DL.dB, DL.dS, DL.dI, DL.dB, DL.dS]
  refine atoi_in_bad l hl h ?_
  simp -dsimp -implicitDefEqProofs (maxSteps := 1000000) (disch := first | omega | (simp only [List.length_append, List.length_cons, List.length_nil]; omega) | (intros; simp only [ne_eq, reduceCtorEq, not_false_eq_true] <;> fail)) only [DL.R, Nat.reduceEqDiff, ↓reduceIte, reduceCtorEq, Int.reduceToNat, Int.reduceLE, Int.reduceLT, Nat.reduceLeDiff, Nat.reduceAdd, Nat.reduceMul, Int.reduceBNe, Int.reduceBEq, Int.cast_ofNat_Int, decide_true, decide_false, ne_eq, eq_self, implies_true, dc58_r0, dc58_r1, dc58_r2, dc58_r3, dc58_r4, dc58, DL.dI, DL.dB, DL.dS, DL.dI, DL.dB, DL.dS]
  refine toError_call _ l hl hG ?_
  simp -dsimp -implicitDefEqProofs (maxSteps := 1000000) (disch := first | omega | (simp only [List.length_append, List.length_cons, List.length_nil]; omega) | (intros; simp only [ne_eq, reduceCtorEq, not_false_eq_true] <;> fail)) only [DL.R, Nat.reduceEqDiff, ↓reduceIte, reduceCtorEq, Int.reduceToNat, Int.reduceLE, Int.reduceLT, Nat.reduceLeDiff, Nat.reduceAdd, Nat.reduceMul, Int.reduceBNe, Int.reduceBEq, Int.cast_ofNat_Int, decide_true, decide_false, ne_eq, eq_self, implies_true, dc58_r0, dc58_r1, dc58_r2, dc58_r3, dc58_r4, dc58, DL.dI, DL.dB, DL.dS, DL.dI, DL.dB, DL.dS]
  exact hQ
end Go.Proofs.Tryd
set_option maxRecDepth 100000
set_option linter.unusedSimpArgs false
set_option linter.unusedVariables false
namespace Go.Proofs.Tryd
open Go Go.DL
variable {G : Nat → D} {H : List O} {Q : D → List O → Prop}
def bl : Bool → List UInt8 → Nat
  | _, [] => 0
  | c, b :: l => if b = 10 then 1 + bl false l else if c then 1 + bl true l else if b = 32 then 1 + bl false l else if b = 35 then 1 + bl true l else 0
theorem bl_le : ∀ (c : Bool) (l : List UInt8), bl c l ≤ l.length
  | _, [] => Nat.le_refl _
  | c, b :: l => by
    have h1 := bl_le false l
    have h2 := bl_le true l
    simp only [bl, List.length_cons]
    repeat' split
    all_goals omega
theorem bl_line : ∀ (l : List UInt8), (Lib.indexByte l 10 = -1 → bl true l = l.length) ∧ ∀ k : Nat, Lib.indexByte l 10 = k → bl true l = k + bl false (l.drop k) ∧ k < l.length ∧ l[k]? = some 10
  | [] => ⟨fun _ => rfl, fun k hk => by simp [Lib.indexByte] at hk⟩
  | b :: l => by
    obtain ⟨i1, i2⟩ := bl_line l
    have hge := Lib.indexByte_ge l 10
    by_cases hb : b = 10
    · subst hb
      refine ⟨fun q => by simp [Lib.indexByte] at q, fun k hk => ?_⟩
      have : k = 0 := by simp [Lib.indexByte] at hk; omega
      subst this
      refine ⟨?_, by simp, rfl⟩
      simp [bl]
    · have hb' : (b == 10) = false := by simpa using hb
      have hi : Lib.indexByte (b :: l) 10 = if Lib.indexByte l 10 == -1 then -1 else Lib.indexByte l 10 + 1 := by simp [Lib.indexByte, hb']
      have hbl : bl true (b :: l) = 1 + bl true l := by simp [bl, hb]
      rw [hi, hbl]
      by_cases hm : Lib.indexByte l 10 = -1
      · refine ⟨fun _ => by rw [i1 hm]; simp [Nat.add_comm], fun k hk => ?_⟩
        rw [hm] at hk; simp at hk
      · have hm' : (Lib.indexByte l 10 == -1) = false := by simpa using hm
        rw [hm']
        refine ⟨fun q => by simp at q; omega, fun k hk => ?_⟩
        simp only [Bool.false_eq_true, if_false] at hk
        obtain ⟨j1, j2, j3⟩ := i2 (k - 1) (by omega)
        obtain ⟨m, rfl⟩ : ∃ m, k = m + 1 := ⟨k - 1, by omega⟩
        simp only [Nat.add_sub_cancel] at j1 j2 j3
        refine ⟨by rw [j1]; simp; omega, by simp; omega, by simpa using j3⟩
theorem byte_is {u : UInt8} {n : Int} (h : ((u.toNat : Int) == n) = true) (m : UInt8) (hm : (m.toNat : Int) = n) : u = m := by
  have : (u.toNat : Int) = n := by simpa using h
  exact UInt8.toNat_inj.1 (by omega)
theorem byte_no {u : UInt8} {n : Int} (h : ((u.toNat : Int) == n) = false) (m : UInt8) (hm : (m.toNat : Int) = n) : ¬ u = m := by
  rintro rfl
  rw [hm] at h; simp at h
theorem blanks_spec (l : List UInt8) (hl : l.length ≤ 1099511627776) (hQ : Q (dI (bl false l)) H) : CallA Tryd.prog G 43 [dS (str l)] H Q := by
  refine s43 (Nat.le_of_ble_eq_true rfl) ?_
  simp -dsimp -implicitDefEqProofs (maxSteps := 1000000) (disch := first | omega | (simp only [List.length_append, List.length_cons, List.length_nil]; omega) | (intros; simp only [ne_eq, reduceCtorEq, not_false_eq_true] <;> fail)) only [DL.R, Nat.reduceEqDiff, ↓reduceIte, reduceCtorEq, Int.reduceToNat, Int.reduceLE, Int.reduceLT, Nat.reduceLeDiff, Nat.reduceAdd, Nat.reduceMul, Int.reduceBNe, Int.reduceBEq, Int.cast_ofNat_Int, decide_true, decide_false, ne_eq, eq_self, implies_true, dc43_r0, dc43_r1, dc43_r2, dc43_r3, dc43_r5, dc43_r6, dc43_r7, dc43_r8, dc43_r9, dc43_r10, dc43_r11, dc43_r12, dc43_r4, dc43_r13, dc43, DL.dI, DL.dB, DL.dS, DL.dI, DL.dB, DL.dS]
  refine loop_i (fun s' H' => H' = H ∧ s' 0 = dS (str l) ∧ ∃ n : Nat, n ≤ l.length ∧ s' 3 = dI n ∧ bl false l = n + bl false (l.drop n)) (fun s' _ => l.length - (s' 3).toN) ?_ ?_
  · simp -dsimp -implicitDefEqProofs (maxSteps := 1000000) (disch := first | omega | (simp only [List.length_append, List.length_cons, List.length_nil]; omega) | (intros; simp only [ne_eq, reduceCtorEq, not_false_eq_true] <;> fail)) only [DL.R, Nat.reduceEqDiff, ↓reduceIte, reduceCtorEq, Int.reduceToNat, Int.reduceLE, Int.reduceLT, Nat.reduceLeDiff, Nat.reduceAdd, Nat.reduceMul, Int.reduceBNe, Int.reduceBEq, Int.cast_ofNat_Int, decide_true, decide_false, ne_eq, eq_self, implies_true, dc43_r0, dc43_r1, dc43_r2, dc43_r3, dc43_r5, dc43_r6, dc43_r7, dc43_r8, dc43_r9, dc43_r10, dc43_r11, dc43_r12, dc43_r4, dc43_r13, dc43, DL.dI, DL.dB, DL.dS, DL.dI, DL.dS]
    exact ⟨0, Nat.zero_le _, rfl, by simp⟩
  · rintro s' H' ⟨rfl, h0, n, hn, h3, hb⟩
    simp -dsimp -implicitDefEqProofs (maxSteps := 1000000) (disch := first | omega | (simp only [List.length_append, List.length_cons, List.length_nil]; omega) | (intros; simp only [ne_eq, reduceCtorEq, not_false_eq_true] <;> fail)) only [DL.R, Nat.reduceEqDiff, ↓reduceIte, reduceCtorEq, Int.reduceToNat, Int.reduceLE, Int.reduceLT, Nat.reduceLeDiff, Nat.reduceAdd, Nat.reduceMul, Int.reduceBNe, Int.reduceBEq, Int.cast_ofNat_Int, decide_true, decide_false, ne_eq, eq_self, implies_true, dc43_r0, dc43_r1, dc43_r2, dc43_r3, dc43_r5, dc43_r6, dc43_r7, dc43_r8, dc43_r9, dc43_r10, dc43_r11, dc43_r12, dc43_r4, dc43_r13, dc43, DL.dI, DL.dB, DL.dS, DL.dI, DL.dS, h0, h3]
    refine onB_i (fun c => ?_) (fun c => ?_)
    · have c' : n < l.length := by simpa using c
      have hd : l.drop n = l[n] :: l.drop (n + 1) := List.drop_eq_getElem_cons c'
      simp -dsimp -implicitDefEqProofs (maxSteps := 1000000) (disch := first | omega | (simp only [List.length_append, List.length_cons, List.length_nil]; omega) | (intros; simp only [ne_eq, reduceCtorEq, not_false_eq_true] <;> fail)) only [DL.R, Nat.reduceEqDiff, ↓reduceIte, reduceCtorEq, Int.reduceToNat, Int.reduceLE, Int.reduceLT, Nat.reduceLeDiff, Nat.reduceAdd, Nat.reduceMul, Int.reduceBNe, Int.reduceBEq, Int.cast_ofNat_Int, decide_true, decide_false, ne_eq, eq_self, implies_true, dc43_r0, dc43_r1, dc43_r2, dc43_r3, dc43_r5, dc43_r6, dc43_r7, dc43_r8, dc43_r9, dc43_r10, dc43_r11, dc43_r12, dc43_r4, dc43_r13, dc43, DL.dI, DL.dB, DL.dS, DL.dI, DL.dS, h0, h3]
      refine onB_i (fun e => ?_) (fun e => ?_)
      · have e' : l[n] = 32 := byte_is e 32 rfl
        simp -dsimp -implicitDefEqProofs (maxSteps := 1000000) (disch := first | omega | (simp only [List.length_append, List.length_cons, List.length_nil]; omega) | (intros; simp only [ne_eq, reduceCtorEq, not_false_eq_true] <;> fail)) only [DL.R, Nat.reduceEqDiff, ↓reduceIte, reduceCtorEq, Int.reduceToNat, Int.reduceLE, Int.reduceLT, Nat.reduceLeDiff, Nat.reduceAdd, Nat.reduceMul, Int.reduceBNe, Int.reduceBEq, Int.cast_ofNat_Int, decide_true, decide_false, ne_eq, eq_self, implies_true, dc43_r0, dc43_r1, dc43_r2, dc43_r3, dc43_r5, dc43_r6, dc43_r7, dc43_r8, dc43_r9, dc43_r10, dc43_r11, dc43_r12, dc43_r4, dc43_r13, dc43, DL.dI, DL.dB, DL.dS, DL.dI, DL.dS, h0, h3, e, DL.wrap_id, DL.D.toN]
        refine ⟨⟨n + 1, by omega, by simp, ?_⟩, by omega⟩
        rw [hb, hd]; simp [bl, e']; omega
      · have e' : ¬ l[n] = 32 := byte_no e 32 rfl
        simp -dsimp -implicitDefEqProofs (maxSteps := 1000000) (disch := first | omega | (simp only [List.length_append, List.length_cons, List.length_nil]; omega) | (intros; simp only [ne_eq, reduceCtorEq, not_false_eq_true] <;> fail)) only [DL.R, Nat.reduceEqDiff, ↓reduceIte, reduceCtorEq, Int.reduceToNat, Int.reduceLE, Int.reduceLT, Nat.reduceLeDiff, Nat.reduceAdd, Nat.reduceMul, Int.reduceBNe, Int.reduceBEq, Int.cast_ofNat_Int, decide_true, decide_false, ne_eq, eq_self, implies_true, dc43_r0, dc43_r1, dc43_r2, dc43_r3, dc43_r5, dc43_r6, dc43_r7, dc43_r8, dc43_r9, dc43_r10, dc43_r11, dc43_r12, dc43_r4, dc43_r13, dc43, DL.dI, DL.dB, DL.dS, DL.dI, DL.dS, h0, h3, e]
        refine onB_i (fun f => ?_) (fun f => ?_)
        · have f' : l[n] = 10 := byte_is f 10 rfl
          simp -dsimp -implicitDefEqProofs (maxSteps := 1000000) (disch := first | omega | (simp only [List.length_append, List.length_cons, List.length_nil]; omega) | (intros; simp only [ne_eq, reduceCtorEq, not_false_eq_true] <;> fail)) only [DL.R, Nat.reduceEqDiff, ↓reduceIte, reduceCtorEq, Int.reduceToNat, Int.reduceLE, Int.reduceLT, Nat.reduceLeDiff, Nat.reduceAdd, Nat.reduceMul, Int.reduceBNe, Int.reduceBEq, Int.cast_ofNat_Int, decide_true, decide_false, ne_eq, eq_self, implies_true, dc43_r0, dc43_r1, dc43_r2, dc43_r3, dc43_r5, dc43_r6, dc43_r7, dc43_r8, dc43_r9, dc43_r10, dc43_r11, dc43_r12, dc43_r4, dc43_r13, dc43, DL.dI, DL.dB, DL.dS, DL.dI, DL.dS, h0, h3, f, DL.wrap_id, DL.D.toN]
          refine ⟨⟨n + 1, by omega, by simp, ?_⟩, by omega⟩
          rw [hb, hd]; simp [bl, f']; omega
        · have f' : ¬ l[n] = 10 := byte_no f 10 rfl
          simp -dsimp -implicitDefEqProofs (maxSteps := 1000000) (disch := first | omega | (simp only [List.length_append, List.length_cons, List.length_nil]; omega) | (intros; simp only [ne_eq, reduceCtorEq, not_false_eq_true] <;> fail)) only [DL.R, Nat.reduceEqDiff, ↓reduceIte, reduceCtorEq, Int.reduceToNat, Int.reduceLE, Int.reduceLT, Nat.reduceLeDiff, Nat.reduceAdd, Nat.reduceMul, Int.reduceBNe, Int.reduceBEq, Int.cast_ofNat_Int, decide_true, decide_false, ne_eq, eq_self, implies_true, dc43_r0, dc43_r1, dc43_r2, dc43_r3, dc43_r5, dc43_r6, dc43_r7, dc43_r8, dc43_r9, dc43_r10, dc43_r11, dc43_r12, dc43_r4, dc43_r13, dc43, DL.dI, DL.dB, DL.dS, DL.dI, DL.dS, h0, h3, f]
          refine onB_i (fun g => ?_) (fun g => ?_)
          · have g' : l[n] = 35 := byte_is g 35 rfl
            simp -dsimp -implicitDefEqProofs (maxSteps := 1000000) (disch := first | omega | (simp only [List.length_append, List.length_cons, List.length_nil]; omega) | (intros; simp only [ne_eq, reduceCtorEq, not_false_eq_true] <;> fail)) only [DL.R, Nat.reduceEqDiff, ↓reduceIte, reduceCtorEq, Int.reduceToNat, Int.reduceLE, Int.reduceLT, Nat.reduceLeDiff, Nat.reduceAdd, Nat.reduceMul, Int.reduceBNe, Int.reduceBEq, Int.cast_ofNat_Int, decide_true, decide_false, ne_eq, eq_self, implies_true, dc43_r0, dc43_r1, dc43_r2, dc43_r3, dc43_r5, dc43_r6, dc43_r7, dc43_r8, dc43_r9, dc43_r10, dc43_r11, dc43_r12, dc43_r4, dc43_r13, dc43, DL.dI, DL.dB, DL.dS, DL.dI, DL.dS, h0, h3]
            refine ⟨by omega, by omega, ?_⟩
            refine indexByte_call _ 10 ?_
            obtain ⟨j1, j2⟩ := bl_line (l.drop n)
            have hge := Lib.indexByte_ge (l.drop n) 10
            have hb1 : bl false (l.drop n) = bl true (l.drop n) := by rw [hd]; simp [bl, f', e', g']
            have hdl : ((l.drop n).take (l.length - n)) = l.drop n := List.take_of_length_le (by simp)
            simp -dsimp -implicitDefEqProofs (maxSteps := 1000000) (disch := first | omega | (simp only [List.length_append, List.length_cons, List.length_nil]; omega) | (intros; simp only [ne_eq, reduceCtorEq, not_false_eq_true] <;> fail)) only [DL.R, Nat.reduceEqDiff, ↓reduceIte, reduceCtorEq, Int.reduceToNat, Int.reduceLE, Int.reduceLT, Nat.reduceLeDiff, Nat.reduceAdd, Nat.reduceMul, Int.reduceBNe, Int.reduceBEq, Int.cast_ofNat_Int, decide_true, decide_false, ne_eq, eq_self, implies_true, dc43_r0, dc43_r1, dc43_r2, dc43_r3, dc43_r5, dc43_r6, dc43_r7, dc43_r8, dc43_r9, dc43_r10, dc43_r11, dc43_r12, dc43_r4, dc43_r13, dc43, DL.dI, DL.dB, DL.dS, DL.dI, DL.dS, h0, h3, hdl]
            generalize hk : Lib.indexByte (l.drop n) 10 = k at *
            refine onB_i (fun q => ?_) (fun q => ?_)
            · have q' : k = -1 := by simp at q; omega
              simp -dsimp -implicitDefEqProofs (maxSteps := 1000000) (disch := first | omega | (simp only [List.length_append, List.length_cons, List.length_nil]; omega) | (intros; simp only [ne_eq, reduceCtorEq, not_false_eq_true] <;> fail)) only [DL.R, Nat.reduceEqDiff, ↓reduceIte, reduceCtorEq, Int.reduceToNat, Int.reduceLE, Int.reduceLT, Nat.reduceLeDiff, Nat.reduceAdd, Nat.reduceMul, Int.reduceBNe, Int.reduceBEq, Int.cast_ofNat_Int, decide_true, decide_false, ne_eq, eq_self, implies_true, dc43_r0, dc43_r1, dc43_r2, dc43_r3, dc43_r5, dc43_r6, dc43_r7, dc43_r8, dc43_r9, dc43_r10, dc43_r11, dc43_r12, dc43_r4, dc43_r13, dc43, DL.dI, DL.dB, DL.dS, DL.dI, DL.dS, h0, h3]
              have : bl false l = l.length := by rw [hb, hb1, j1 q']; simp; omega
              rw [this] at hQ; exact hQ
            · obtain ⟨m, rfl⟩ : ∃ m : Nat, k = m := ⟨k.toNat, by simp at q; omega⟩
              obtain ⟨j3, j4, j5⟩ := j2 m rfl
              have hm : 0 < m := by
                rcases Nat.eq_zero_or_pos m with rfl | h
                · exact absurd (by simpa [c'] using j5) f'
                · exact h
              simp only [List.length_drop] at j4
              simp -dsimp -implicitDefEqProofs (maxSteps := 1000000) (disch := first | omega | (simp only [List.length_append, List.length_cons, List.length_nil]; omega) | (intros; simp only [ne_eq, reduceCtorEq, not_false_eq_true] <;> fail)) only [DL.R, Nat.reduceEqDiff, ↓reduceIte, reduceCtorEq, Int.reduceToNat, Int.reduceLE, Int.reduceLT, Nat.reduceLeDiff, Nat.reduceAdd, Nat.reduceMul, Int.reduceBNe, Int.reduceBEq, Int.cast_ofNat_Int, decide_true, decide_false, ne_eq, eq_self, implies_true, dc43_r0, dc43_r1, dc43_r2, dc43_r3, dc43_r5, dc43_r6, dc43_r7, dc43_r8, dc43_r9, dc43_r10, dc43_r11, dc43_r12, dc43_r4, dc43_r13, dc43, DL.dI, DL.dB, DL.dS, DL.dI, DL.dS, h0, h3, DL.wrap_id, DL.D.toN]
              refine ⟨⟨n + m, by omega, by simp, ?_⟩, by omega⟩
              rw [hb, hb1, j3, List.drop_drop]; omega
          · have g' : ¬ l[n] = 35 := byte_no g 35 rfl
            simp -dsimp -implicitDefEqProofs (maxSteps := 1000000) (disch := first | omega | (simp only [List.length_append, List.length_cons, List.length_nil]; omega) | (intros; simp only [ne_eq, reduceCtorEq, not_false_eq_true] <;> fail)) only [DL.R, Nat.reduceEqDiff, ↓reduceIte, reduceCtorEq, Int.reduceToNat, Int.reduceLE, Int.reduceLT, Nat.reduceLeDiff, Nat.reduceAdd, Nat.reduceMul, Int.reduceBNe, Int.reduceBEq, Int.cast_ofNat_Int, decide_true, decide_false, ne_eq, eq_self, implies_true, dc43_r0, dc43_r1, dc43_r2, dc43_r3, dc43_r5, dc43_r6, dc43_r7, dc43_r8, dc43_r9, dc43_r10, dc43_r11, dc43_r12, dc43_r4, dc43_r13, dc43, DL.dI, DL.dB, DL.dS, DL.dI, DL.dS, h0, h3]
            have : bl false l = n := by rw [hb, hd]; simp [bl, e', f', g']
            rw [this] at hQ; exact hQ
    · have c' : l.drop n = [] := List.drop_eq_nil_of_le (by simp at c; omega)
      simp -dsimp -implicitDefEqProofs (maxSteps := 1000000) (disch := first | omega | (simp only [List.length_append, List.length_cons, List.length_nil]; omega) | (intros; simp only [ne_eq, reduceCtorEq, not_false_eq_true] <;> fail)) only [DL.R, Nat.reduceEqDiff, ↓reduceIte, reduceCtorEq, Int.reduceToNat, Int.reduceLE, Int.reduceLT, Nat.reduceLeDiff, Nat.reduceAdd, Nat.reduceMul, Int.reduceBNe, Int.reduceBEq, Int.cast_ofNat_Int, decide_true, decide_false, ne_eq, eq_self, implies_true, dc43_r0, dc43_r1, dc43_r2, dc43_r3, dc43_r5, dc43_r6, dc43_r7, dc43_r8, dc43_r9, dc43_r10, dc43_r11, dc43_r12, dc43_r4, dc43_r13, dc43, DL.dI, DL.dB, DL.dS, DL.dI, DL.dS, h0, h3]
      have : bl false l = n := by rw [hb, c']; simp [bl]
      rw [this] at hQ; exact hQ
end Go.Proofs.Tryd
set_option maxRecDepth 100000
set_option linter.unusedSimpArgs false
set_option linter.unusedVariables false
namespace Go.Proofs.Tryd
open Go Go.DL
variable {G : Nat → D} {H : List O} {Q : D → List O → Prop}
def isLetter (u : UInt8) : Bool := decide (97 ≤ u.toNat) && decide (u.toNat ≤ 122) || decide (65 ≤ u.toNat) && decide (u.toNat ≤ 90)
def isDigit (u : UInt8) : Bool := decide (48 ≤ u.toNat) && decide (u.toNat ≤ 57)
def isEither (u : UInt8) : Bool := isLetter u || isDigit u
theorem toB {b c : Bool} (h : Q (dB b) H) (e : b = c) : Q (.lit (.bool c)) H := by rw [← e]; exact h
theorem digit_spec (u : UInt8) (hQ : Q (dB (isDigit u)) H) : CallA Tryd.prog G 109 [.lit (.int .u8 u.toNat)] H Q := by
  refine s109 (Nat.le_of_ble_eq_true rfl) ?_
  simp -dsimp -implicitDefEqProofs (maxSteps := 1000000) (disch := first | omega | (simp only [List.length_append, List.length_cons, List.length_nil]; omega) | (intros; simp only [ne_eq, reduceCtorEq, not_false_eq_true] <;> fail)) only [DL.R, Nat.reduceEqDiff, ↓reduceIte, reduceCtorEq, Int.reduceToNat, Int.reduceLE, Int.reduceLT, Nat.reduceLeDiff, Nat.reduceAdd, Nat.reduceMul, Int.reduceBNe, Int.reduceBEq, Int.cast_ofNat_Int, decide_true, decide_false, ne_eq, eq_self, implies_true, dc109_r0, dc109_r1, dc109, DL.dI, DL.dB, DL.dS, DL.dI, DL.dB, DL.dS]
  refine onG_i (fun e1 => ?_) (fun e1 => ?_) <;> simp -dsimp -implicitDefEqProofs (maxSteps := 1000000) (disch := first | omega | (simp only [List.length_append, List.length_cons, List.length_nil]; omega) | (intros; simp only [ne_eq, reduceCtorEq, not_false_eq_true] <;> fail)) only [DL.R, Nat.reduceEqDiff, ↓reduceIte, reduceCtorEq, Int.reduceToNat, Int.reduceLE, Int.reduceLT, Nat.reduceLeDiff, Nat.reduceAdd, Nat.reduceMul, Int.reduceBNe, Int.reduceBEq, Int.cast_ofNat_Int, decide_true, decide_false, ne_eq, eq_self, implies_true, dc109_r0, dc109_r1, dc109, DL.dI, DL.dB, DL.dS, DL.dI]
  all_goals
    refine toB hQ ?_
    rw [Bool.eq_iff_iff]
    simp [isDigit] at e1 ⊢
    omega
theorem letter_spec (u : UInt8) (hQ : Q (dB (isLetter u)) H) : CallA Tryd.prog G 52 [.lit (.int .u8 u.toNat)] H Q := by
  refine s52 (Nat.le_of_ble_eq_true rfl) ?_
  simp -dsimp -implicitDefEqProofs (maxSteps := 1000000) (disch := first | omega | (simp only [List.length_append, List.length_cons, List.length_nil]; omega) | (intros; simp only [ne_eq, reduceCtorEq, not_false_eq_true] <;> fail)) only [DL.R, Nat.reduceEqDiff, ↓reduceIte, reduceCtorEq, Int.reduceToNat, Int.reduceLE, Int.reduceLT, Nat.reduceLeDiff, Nat.reduceAdd, Nat.reduceMul, Int.reduceBNe, Int.reduceBEq, Int.cast_ofNat_Int, decide_true, decide_false, ne_eq, eq_self, implies_true, dc52_r0, dc52_r1, dc52, DL.dI, DL.dB, DL.dS, DL.dI, DL.dB, DL.dS]
  refine onG_i (fun e1 => ?_) (fun e1 => ?_) <;> simp -dsimp -implicitDefEqProofs (maxSteps := 1000000) (disch := first | omega | (simp only [List.length_append, List.length_cons, List.length_nil]; omega) | (intros; simp only [ne_eq, reduceCtorEq, not_false_eq_true] <;> fail)) only [DL.R, Nat.reduceEqDiff, ↓reduceIte, reduceCtorEq, Int.reduceToNat, Int.reduceLE, Int.reduceLT, Nat.reduceLeDiff, Nat.reduceAdd, Nat.reduceMul, Int.reduceBNe, Int.reduceBEq, Int.cast_ofNat_Int, decide_true, decide_false, ne_eq, eq_self, implies_true, dc52_r0, dc52_r1, dc52, DL.dI, DL.dB, DL.dS, DL.dI]
  · refine onG_i (fun e2 => ?_) (fun e2 => ?_) <;> simp -dsimp -implicitDefEqProofs (maxSteps := 1000000) (disch := first | omega | (simp only [List.length_append, List.length_cons, List.length_nil]; omega) | (intros; simp only [ne_eq, reduceCtorEq, not_false_eq_true] <;> fail)) only [DL.R, Nat.reduceEqDiff, ↓reduceIte, reduceCtorEq, Int.reduceToNat, Int.reduceLE, Int.reduceLT, Nat.reduceLeDiff, Nat.reduceAdd, Nat.reduceMul, Int.reduceBNe, Int.reduceBEq, Int.cast_ofNat_Int, decide_true, decide_false, ne_eq, eq_self, implies_true, dc52_r0, dc52_r1, dc52, DL.dI, DL.dB, DL.dS, DL.dI]
    · refine onG_i (fun e3 => ?_) (fun e3 => ?_) <;> simp -dsimp -implicitDefEqProofs (maxSteps := 1000000) (disch := first | omega | (simp only [List.length_append, List.length_cons, List.length_nil]; omega) | (intros; simp only [ne_eq, reduceCtorEq, not_false_eq_true] <;> fail)) only [DL.R, Nat.reduceEqDiff, ↓reduceIte, reduceCtorEq, Int.reduceToNat, Int.reduceLE, Int.reduceLT, Nat.reduceLeDiff, Nat.reduceAdd, Nat.reduceMul, Int.reduceBNe, Int.reduceBEq, Int.cast_ofNat_Int, decide_true, decide_false, ne_eq, eq_self, implies_true, dc52_r0, dc52_r1, dc52, DL.dI, DL.dB, DL.dS, DL.dI]
      all_goals
        refine toB hQ ?_
        rw [Bool.eq_iff_iff]
        simp [isLetter] at e1 e2 e3 ⊢
        omega
    · refine toB hQ ?_
      simp [isLetter] at e1 e2 ⊢
      omega
  · refine onG_i (fun e3 => ?_) (fun e3 => ?_) <;> simp -dsimp -implicitDefEqProofs (maxSteps := 1000000) (disch := first | omega | (simp only [List.length_append, List.length_cons, List.length_nil]; omega) | (intros; simp only [ne_eq, reduceCtorEq, not_false_eq_true] <;> fail)) only [DL.R, Nat.reduceEqDiff, ↓reduceIte, reduceCtorEq, Int.reduceToNat, Int.reduceLE, Int.reduceLT, Nat.reduceLeDiff, Nat.reduceAdd, Nat.reduceMul, Int.reduceBNe, Int.reduceBEq, Int.cast_ofNat_Int, decide_true, decide_false, ne_eq, eq_self, implies_true, dc52_r0, dc52_r1, dc52, DL.dI, DL.dB, DL.dS, DL.dI]
    all_goals
      refine toB hQ ?_
      rw [Bool.eq_iff_iff]
      simp [isLetter] at e1 e3 ⊢
      omega
theorem either_spec (u : UInt8) (hQ : Q (dB (isEither u)) H) : CallA Tryd.prog G 108 [.lit (.int .u8 u.toNat)] H Q := by
  refine s108 (Nat.le_of_ble_eq_true rfl) ?_
  simp -dsimp -implicitDefEqProofs (maxSteps := 1000000) (disch := first | omega | (simp only [List.length_append, List.length_cons, List.length_nil]; omega) | (intros; simp only [ne_eq, reduceCtorEq, not_false_eq_true] <;> fail)) only [DL.R, Nat.reduceEqDiff, ↓reduceIte, reduceCtorEq, Int.reduceToNat, Int.reduceLE, Int.reduceLT, Nat.reduceLeDiff, Nat.reduceAdd, Nat.reduceMul, Int.reduceBNe, Int.reduceBEq, Int.cast_ofNat_Int, decide_true, decide_false, ne_eq, eq_self, implies_true, dc108_r0, dc108_r1, dc108, DL.dI, DL.dB, DL.dS, DL.dI, DL.dB, DL.dS]
  refine letter_spec u ?_
  simp -dsimp -implicitDefEqProofs (maxSteps := 1000000) (disch := first | omega | (simp only [List.length_append, List.length_cons, List.length_nil]; omega) | (intros; simp only [ne_eq, reduceCtorEq, not_false_eq_true] <;> fail)) only [DL.R, Nat.reduceEqDiff, ↓reduceIte, reduceCtorEq, Int.reduceToNat, Int.reduceLE, Int.reduceLT, Nat.reduceLeDiff, Nat.reduceAdd, Nat.reduceMul, Int.reduceBNe, Int.reduceBEq, Int.cast_ofNat_Int, decide_true, decide_false, ne_eq, eq_self, implies_true, dc108_r0, dc108_r1, dc108, DL.dI, DL.dB, DL.dS, DL.dI, DL.dB, DL.dS]
  refine onG_i (fun e1 => ?_) (fun e1 => ?_) <;> simp -dsimp -implicitDefEqProofs (maxSteps := 1000000) (disch := first | omega | (simp only [List.length_append, List.length_cons, List.length_nil]; omega) | (intros; simp only [ne_eq, reduceCtorEq, not_false_eq_true] <;> fail)) only [DL.R, Nat.reduceEqDiff, ↓reduceIte, reduceCtorEq, Int.reduceToNat, Int.reduceLE, Int.reduceLT, Nat.reduceLeDiff, Nat.reduceAdd, Nat.reduceMul, Int.reduceBNe, Int.reduceBEq, Int.cast_ofNat_Int, decide_true, decide_false, ne_eq, eq_self, implies_true, dc108_r0, dc108_r1, dc108, DL.dI, DL.dB, DL.dS, DL.dI]
  · refine digit_spec u ?_
    simp -dsimp -implicitDefEqProofs (maxSteps := 1000000) (disch := first | omega | (simp only [List.length_append, List.length_cons, List.length_nil]; omega) | (intros; simp only [ne_eq, reduceCtorEq, not_false_eq_true] <;> fail)) only [DL.R, Nat.reduceEqDiff, ↓reduceIte, reduceCtorEq, Int.reduceToNat, Int.reduceLE, Int.reduceLT, Nat.reduceLeDiff, Nat.reduceAdd, Nat.reduceMul, Int.reduceBNe, Int.reduceBEq, Int.cast_ofNat_Int, decide_true, decide_false, ne_eq, eq_self, implies_true, dc108_r0, dc108_r1, dc108, DL.dI, DL.dB, DL.dS, DL.dI, DL.dB, DL.dS]
    refine toB hQ ?_
    simp [isEither, e1]
  · refine toB hQ ?_
    simp [isEither, e1]
def strs (l : List (List UInt8)) : List D := l.map fun x => dS (str x)
theorem strs_get {l : List (List UInt8)} {k : Nat} (h : k < l.length) : (strs l)[k]? = some (dS (str (l[k]'h))) := by simp [strs, h]
theorem strs_len (l : List (List UInt8)) : (strs l).length = l.length := by simp [strs]
theorem indexS_spec (l : List (List UInt8)) (n : List UInt8) (hb : l.length ≤ 4611686018427387904) (hQ : ∀ r : Int, (0 ≤ r ↔ n ∈ l) → Q (dI r) H) : CallA Tryd.prog G 59 [.sl (strs l), dS (str n)] H Q := by
  refine s59 (Nat.le_of_ble_eq_true rfl) ?_
  simp -dsimp -implicitDefEqProofs (maxSteps := 1000000) (disch := first | omega | (simp only [List.length_append, List.length_cons, List.length_nil]; omega) | (intros; simp only [ne_eq, reduceCtorEq, not_false_eq_true] <;> fail)) only [DL.R, Nat.reduceEqDiff, ↓reduceIte, reduceCtorEq, Int.reduceToNat, Int.reduceLE, Int.reduceLT, Nat.reduceLeDiff, Nat.reduceAdd, Nat.reduceMul, Int.reduceBNe, Int.reduceBEq, Int.cast_ofNat_Int, decide_true, decide_false, ne_eq, eq_self, implies_true, dc59_r0, dc59_r1, dc59_r2, dc59_r3, dc59_r4, dc59_r5, dc59_r6, dc59_r7, dc59, DL.dI, DL.dB, DL.dS, DL.dI, DL.dB, DL.dS, strs_len]
  refine for_i 8 l.length (fun k s' H' => H' = H ∧ s' 0 = .sl (strs l) ∧ s' 1 = dS (str n) ∧ s' 7 = dI l.length ∧ ∀ j, j < k → l[j]? ≠ some n) ?_ ?_ ?_
  · simp -dsimp -implicitDefEqProofs (maxSteps := 1000000) (disch := first | omega | (simp only [List.length_append, List.length_cons, List.length_nil]; omega) | (intros; simp only [ne_eq, reduceCtorEq, not_false_eq_true] <;> fail)) only [DL.R, Nat.reduceEqDiff, ↓reduceIte, reduceCtorEq, Int.reduceToNat, Int.reduceLE, Int.reduceLT, Nat.reduceLeDiff, Nat.reduceAdd, Nat.reduceMul, Int.reduceBNe, Int.reduceBEq, Int.cast_ofNat_Int, decide_true, decide_false, ne_eq, eq_self, implies_true, DL.dI, DL.dB, DL.dS]
  · simp -dsimp -implicitDefEqProofs (maxSteps := 1000000) (disch := first | omega | (simp only [List.length_append, List.length_cons, List.length_nil]; omega) | (intros; simp only [ne_eq, reduceCtorEq, not_false_eq_true] <;> fail)) only [DL.R, Nat.reduceEqDiff, ↓reduceIte, reduceCtorEq, Int.reduceToNat, Int.reduceLE, Int.reduceLT, Nat.reduceLeDiff, Nat.reduceAdd, Nat.reduceMul, Int.reduceBNe, Int.reduceBEq, Int.cast_ofNat_Int, decide_true, decide_false, ne_eq, eq_self, implies_true, DL.dI, DL.dB, DL.dS, DL.dI, DL.dS]
    simp
  · rintro k s' H' hk ht ⟨rfl, h0, h1, h7, hP⟩
    simp -dsimp -implicitDefEqProofs (maxSteps := 1000000) (disch := first | omega | (simp only [List.length_append, List.length_cons, List.length_nil]; omega) | (intros; simp only [ne_eq, reduceCtorEq, not_false_eq_true] <;> fail)) only [DL.R, Nat.reduceEqDiff, ↓reduceIte, reduceCtorEq, Int.reduceToNat, Int.reduceLE, Int.reduceLT, Nat.reduceLeDiff, Nat.reduceAdd, Nat.reduceMul, Int.reduceBNe, Int.reduceBEq, Int.cast_ofNat_Int, decide_true, decide_false, ne_eq, eq_self, implies_true, dc59_r0, dc59_r1, dc59_r2, dc59_r3, dc59_r4, dc59_r5, dc59_r6, dc59_r7, dc59, DL.dI, DL.dB, DL.dS, DL.dI, DL.dS, h0, h1, h7, ht, strs_len]
    refine onB_i (fun c => ?_) (fun c => ?_)
    · have c' : k < l.length := by simpa using c
      simp -dsimp -implicitDefEqProofs (maxSteps := 1000000) (disch := first | omega | (simp only [List.length_append, List.length_cons, List.length_nil]; omega) | (intros; simp only [ne_eq, reduceCtorEq, not_false_eq_true] <;> fail)) only [DL.R, Nat.reduceEqDiff, ↓reduceIte, reduceCtorEq, Int.reduceToNat, Int.reduceLE, Int.reduceLT, Nat.reduceLeDiff, Nat.reduceAdd, Nat.reduceMul, Int.reduceBNe, Int.reduceBEq, Int.cast_ofNat_Int, decide_true, decide_false, ne_eq, eq_self, implies_true, dc59_r0, dc59_r1, dc59_r2, dc59_r3, dc59_r4, dc59_r5, dc59_r6, dc59_r7, dc59, DL.dI, DL.dB, DL.dS, DL.dI, DL.dS, h0, h1, h7, ht, strs_len]
      refine onIdx_i (by omega) (by simpa using strs_get c') ?_
      simp -dsimp -implicitDefEqProofs (maxSteps := 1000000) (disch := first | omega | (simp only [List.length_append, List.length_cons, List.length_nil]; omega) | (intros; simp only [ne_eq, reduceCtorEq, not_false_eq_true] <;> fail)) only [DL.R, Nat.reduceEqDiff, ↓reduceIte, reduceCtorEq, Int.reduceToNat, Int.reduceLE, Int.reduceLT, Nat.reduceLeDiff, Nat.reduceAdd, Nat.reduceMul, Int.reduceBNe, Int.reduceBEq, Int.cast_ofNat_Int, decide_true, decide_false, ne_eq, eq_self, implies_true, dc59_r0, dc59_r1, dc59_r2, dc59_r3, dc59_r4, dc59_r5, dc59_r6, dc59_r7, dc59, DL.dI, DL.dB, DL.dS, DL.dI, DL.dS, h0, h1, h7, ht, strs_len]
      refine onB_i (fun e => ?_) (fun e => ?_)
      · have e' : n = l[k] := by simpa using e
        simp -dsimp -implicitDefEqProofs (maxSteps := 1000000) (disch := first | omega | (simp only [List.length_append, List.length_cons, List.length_nil]; omega) | (intros; simp only [ne_eq, reduceCtorEq, not_false_eq_true] <;> fail)) only [DL.R, Nat.reduceEqDiff, ↓reduceIte, reduceCtorEq, Int.reduceToNat, Int.reduceLE, Int.reduceLT, Nat.reduceLeDiff, Nat.reduceAdd, Nat.reduceMul, Int.reduceBNe, Int.reduceBEq, Int.cast_ofNat_Int, decide_true, decide_false, ne_eq, eq_self, implies_true, dc59_r0, dc59_r1, dc59_r2, dc59_r3, dc59_r4, dc59_r5, dc59_r6, dc59_r7, dc59, DL.dI, DL.dB, DL.dS, DL.dI, DL.dS, h0, h1, h7, ht, strs_len]
        exact hQ k ⟨fun _ => by rw [e']; exact List.getElem_mem _, fun _ => by omega⟩
      · have e' : ¬ n = l[k] := by simpa using e
        simp -dsimp -implicitDefEqProofs (maxSteps := 1000000) (disch := first | omega | (simp only [List.length_append, List.length_cons, List.length_nil]; omega) | (intros; simp only [ne_eq, reduceCtorEq, not_false_eq_true] <;> fail)) only [DL.R, Nat.reduceEqDiff, ↓reduceIte, reduceCtorEq, Int.reduceToNat, Int.reduceLE, Int.reduceLT, Nat.reduceLeDiff, Nat.reduceAdd, Nat.reduceMul, Int.reduceBNe, Int.reduceBEq, Int.cast_ofNat_Int, decide_true, decide_false, ne_eq, eq_self, implies_true, dc59_r0, dc59_r1, dc59_r2, dc59_r3, dc59_r4, dc59_r5, dc59_r6, dc59_r7, dc59, DL.dI, DL.dB, DL.dS, DL.dI, DL.dS, h0, h1, h7, ht, strs_len, DL.wrap_id]
        refine ⟨c', fun j hj => ?_⟩
        by_cases hjk : j < k
        · exact hP j hjk
        · have : j = k := by omega
          subst this; simpa [c'] using fun q : l[j] = n => e' q.symm
    · have c' : ¬ k < l.length := by simpa using c
      simp -dsimp -implicitDefEqProofs (maxSteps := 1000000) (disch := first | omega | (simp only [List.length_append, List.length_cons, List.length_nil]; omega) | (intros; simp only [ne_eq, reduceCtorEq, not_false_eq_true] <;> fail)) only [DL.R, Nat.reduceEqDiff, ↓reduceIte, reduceCtorEq, Int.reduceToNat, Int.reduceLE, Int.reduceLT, Nat.reduceLeDiff, Nat.reduceAdd, Nat.reduceMul, Int.reduceBNe, Int.reduceBEq, Int.cast_ofNat_Int, decide_true, decide_false, ne_eq, eq_self, implies_true, dc59_r0, dc59_r1, dc59_r2, dc59_r3, dc59_r4, dc59_r5, dc59_r6, dc59_r7, dc59, DL.dI, DL.dB, DL.dS, DL.dI, DL.dS, h0, h1, h7, ht, strs_len]
      refine hQ (-1) ⟨fun q => by omega, fun hm => ?_⟩
      obtain ⟨j, hj, e⟩ := List.mem_iff_getElem.1 hm
      exact absurd (by simp [hj, e]) (hP j (by omega))
theorem containsS_spec (l : List (List UInt8)) (n : List UInt8) (hb : l.length ≤ 4611686018427387904) (hQ : Q (dB (l.contains n)) H) : CallA Tryd.prog G 51 [.sl (strs l), dS (str n)] H Q := by
  refine s51 (Nat.le_of_ble_eq_true rfl) ?_
  simp -dsimp -implicitDefEqProofs (maxSteps := 1000000) (disch := first | omega | (simp only [List.length_append, List.length_cons, List.length_nil]; omega) | (intros; simp only [ne_eq, reduceCtorEq, not_false_eq_true] <;> fail)) only [DL.R, Nat.reduceEqDiff, ↓reduceIte, reduceCtorEq, Int.reduceToNat, Int.reduceLE, Int.reduceLT, Nat.reduceLeDiff, Nat.reduceAdd, Nat.reduceMul, Int.reduceBNe, Int.reduceBEq, Int.cast_ofNat_Int, decide_true, decide_false, ne_eq, eq_self, implies_true, dc51_r0, dc51_r1, dc51, DL.dI, DL.dB, DL.dS, DL.dI, DL.dB, DL.dS, strs_len]
  refine indexS_spec _ _ hb fun r hr => ?_
  simp -dsimp -implicitDefEqProofs (maxSteps := 1000000) (disch := first | omega | (simp only [List.length_append, List.length_cons, List.length_nil]; omega) | (intros; simp only [ne_eq, reduceCtorEq, not_false_eq_true] <;> fail)) only [DL.R, Nat.reduceEqDiff, ↓reduceIte, reduceCtorEq, Int.reduceToNat, Int.reduceLE, Int.reduceLT, Nat.reduceLeDiff, Nat.reduceAdd, Nat.reduceMul, Int.reduceBNe, Int.reduceBEq, Int.cast_ofNat_Int, decide_true, decide_false, ne_eq, eq_self, implies_true, dc51_r0, dc51_r1, dc51, DL.dI, DL.dB, DL.dS, DL.dI]
  have : l.contains n = decide (r ≥ 0) := by
    by_cases h : n ∈ l
    · have := hr.2 h; simp [h, this]
    · have : ¬ r ≥ 0 := fun q => h (hr.1 q)
      simp [h, this]
  rw [this] at hQ; exact hQ
end Go.Proofs.Tryd
set_option maxRecDepth 100000
set_option linter.unusedSimpArgs false
set_option linter.unusedVariables false
namespace Go.Proofs.Tryd
open Go Go.DL
variable {G : Nat → D} {H : List O} {Q : D → List O → Prop}
def signsL : List (List UInt8) := [[61, 61], [45, 62], [40], [41], [123], [125], [91], [93], [44], [58], [46], [61], [43], [45], [42], [47], [37], [60]]
def short (n : Nat) : Nat := if n > 16 then 0 else n
def tok : List UInt8 → Nat
  | [] => 0
  | b :: r => if isLetter b then short (1 + (r.takeWhile isEither).length) else if isDigit b then short (1 + (r.takeWhile isDigit).length)
    else ((signsL.find? fun x => Lib.hasPrefix (b :: r) x).map List.length).getD 0
def kindsD : D := .el [.fn 52 [], .fn 108 [], .fn 109 [], .fn 109 []]
theorem token_spec (b : UInt8) (r : List UInt8) (hl : r.length ≤ 1099511627776) (hG2 : G 2 = kindsD) (hG3 : G 3 = .el (strs signsL)) (hQ : Q (dI (tok (b :: r))) H) : CallA Tryd.prog G 44 [dS (str (b :: r))] H Q := by
  refine CallA.drop (s44 (Nat.le_of_ble_eq_true rfl) ?_)
  unfold kindsD at hG2
  simp -dsimp -implicitDefEqProofs (maxSteps := 1000000) (disch := first | omega | (simp only [List.length_append, List.length_cons, List.length_nil]; omega) | (intros; simp only [ne_eq, reduceCtorEq, not_false_eq_true] <;> fail)) only [DL.R, Nat.reduceEqDiff, ↓reduceIte, reduceCtorEq, Int.reduceToNat, Int.reduceLE, Int.reduceLT, Nat.reduceLeDiff, Nat.reduceAdd, Nat.reduceMul, Int.reduceBNe, Int.reduceBEq, Int.cast_ofNat_Int, decide_true, decide_false, ne_eq, eq_self, implies_true, dc44_r0, dc44_r1, dc44_r2, dc44_r3, dc44_r4, dc44_r5, dc44_r6, dc44_r7, dc44_r8, dc44_r9, dc44_r10, dc44_r11, dc44_r12, dc44_r13, dc44_r14, dc44_r15, dc44_r16, dc44_r17, dc44_r18, dc44, DL.dI, DL.dB, DL.dS, DL.dI, DL.dB, DL.dS, hG2, hG3]
  refine for_i 9 2 (fun k s' H' => (∃ Gs, H' = H ++ Gs) ∧ s' 0 = dS (str (b :: r)) ∧ s' 8 = .agg [.fn 52 [], .fn 108 [], .fn 109 [], .fn 109 []] ∧ (1 ≤ k → isLetter b = false) ∧ (2 ≤ k → isDigit b = false)) ?_ ?_ ?_
  · simp -dsimp -implicitDefEqProofs (maxSteps := 1000000) (disch := first | omega | (simp only [List.length_append, List.length_cons, List.length_nil]; omega) | (intros; simp only [ne_eq, reduceCtorEq, not_false_eq_true] <;> fail)) only [DL.R, Nat.reduceEqDiff, ↓reduceIte, reduceCtorEq, Int.reduceToNat, Int.reduceLE, Int.reduceLT, Nat.reduceLeDiff, Nat.reduceAdd, Nat.reduceMul, Int.reduceBNe, Int.reduceBEq, Int.cast_ofNat_Int, decide_true, decide_false, ne_eq, eq_self, implies_true, DL.dI, DL.dB, DL.dS]
  · simp -dsimp -implicitDefEqProofs (maxSteps := 1000000) (disch := first | omega | (simp only [List.length_append, List.length_cons, List.length_nil]; omega) | (intros; simp only [ne_eq, reduceCtorEq, not_false_eq_true] <;> fail)) only [DL.R, Nat.reduceEqDiff, ↓reduceIte, reduceCtorEq, Int.reduceToNat, Int.reduceLE, Int.reduceLT, Nat.reduceLeDiff, Nat.reduceAdd, Nat.reduceMul, Int.reduceBNe, Int.reduceBEq, Int.cast_ofNat_Int, decide_true, decide_false, ne_eq, eq_self, implies_true, DL.dI, DL.dB, DL.dS, DL.dI, DL.dS]
    exact ⟨⟨[], by simp⟩, fun h => absurd h (by decide), fun h => absurd h (by decide)⟩
  · rintro k s' H' hk ht ⟨⟨Gs, rfl⟩, h0, h8, hA, hB⟩
    simp -dsimp -implicitDefEqProofs (maxSteps := 1000000) (disch := first | omega | (simp only [List.length_append, List.length_cons, List.length_nil]; omega) | (intros; simp only [ne_eq, reduceCtorEq, not_false_eq_true] <;> fail)) only [DL.R, Nat.reduceEqDiff, ↓reduceIte, reduceCtorEq, Int.reduceToNat, Int.reduceLE, Int.reduceLT, Nat.reduceLeDiff, Nat.reduceAdd, Nat.reduceMul, Int.reduceBNe, Int.reduceBEq, Int.cast_ofNat_Int, decide_true, decide_false, ne_eq, eq_self, implies_true, dc44_r0, dc44_r1, dc44_r2, dc44_r3, dc44_r4, dc44_r5, dc44_r6, dc44_r7, dc44_r8, dc44_r9, dc44_r10, dc44_r11, dc44_r12, dc44_r13, dc44_r14, dc44_r15, dc44_r16, dc44_r17, dc44_r18, dc44, DL.dI, DL.dB, DL.dS, DL.dI, DL.dS, h0, h8, ht]
    refine onB_i (fun c => ?_) (fun c => ?_)
    · have c' : k < 2 := by simp at c; omega
      have hk01 : k = 0 ∨ k = 1 := by omega
      rcases hk01 with rfl | rfl
      · have ht : s' 9 = dI 0 := ht
        simp -dsimp -implicitDefEqProofs (maxSteps := 1000000) (disch := first | omega | (simp only [List.length_append, List.length_cons, List.length_nil]; omega) | (intros; simp only [ne_eq, reduceCtorEq, not_false_eq_true] <;> fail)) only [DL.R, Nat.reduceEqDiff, ↓reduceIte, reduceCtorEq, Int.reduceToNat, Int.reduceLE, Int.reduceLT, Nat.reduceLeDiff, Nat.reduceAdd, Nat.reduceMul, Int.reduceBNe, Int.reduceBEq, Int.cast_ofNat_Int, decide_true, decide_false, ne_eq, eq_self, implies_true, dc44_r0, dc44_r1, dc44_r2, dc44_r3, dc44_r4, dc44_r5, dc44_r6, dc44_r7, dc44_r8, dc44_r9, dc44_r10, dc44_r11, dc44_r12, dc44_r13, dc44_r14, dc44_r15, dc44_r16, dc44_r17, dc44_r18, dc44, DL.dI, DL.dB, DL.dS, DL.dI, DL.dS, h0, h8, ht]
        refine callD_i (CA := CallA Tryd.prog G) (f := 52) (caps := []) (args := [.lit (.int .u8 b.toNat)]) (dB (isLetter b)) (fun Q hQ => letter_spec b hQ) ?_
        simp -dsimp -implicitDefEqProofs (maxSteps := 1000000) (disch := first | omega | (simp only [List.length_append, List.length_cons, List.length_nil]; omega) | (intros; simp only [ne_eq, reduceCtorEq, not_false_eq_true] <;> fail)) only [DL.R, Nat.reduceEqDiff, ↓reduceIte, reduceCtorEq, Int.reduceToNat, Int.reduceLE, Int.reduceLT, Nat.reduceLeDiff, Nat.reduceAdd, Nat.reduceMul, Int.reduceBNe, Int.reduceBEq, Int.cast_ofNat_Int, decide_true, decide_false, ne_eq, eq_self, implies_true, dc44_r0, dc44_r1, dc44_r2, dc44_r3, dc44_r4, dc44_r5, dc44_r6, dc44_r7, dc44_r8, dc44_r9, dc44_r10, dc44_r11, dc44_r12, dc44_r13, dc44_r14, dc44_r15, dc44_r16, dc44_r17, dc44_r18, dc44, DL.dI, DL.dB, DL.dS, DL.dI, DL.dS, DL.dB, h0, h8]
        refine onB_i (fun e => ?_) (fun e => ?_)
        · have e' : isLetter b = false := by simpa using e
          simp -dsimp -implicitDefEqProofs (maxSteps := 1000000) (disch := first | omega | (simp only [List.length_append, List.length_cons, List.length_nil]; omega) | (intros; simp only [ne_eq, reduceCtorEq, not_false_eq_true] <;> fail)) only [DL.R, Nat.reduceEqDiff, ↓reduceIte, reduceCtorEq, Int.reduceToNat, Int.reduceLE, Int.reduceLT, Nat.reduceLeDiff, Nat.reduceAdd, Nat.reduceMul, Int.reduceBNe, Int.reduceBEq, Int.cast_ofNat_Int, decide_true, decide_false, ne_eq, eq_self, implies_true, dc44_r0, dc44_r1, dc44_r2, dc44_r3, dc44_r4, dc44_r5, dc44_r6, dc44_r7, dc44_r8, dc44_r9, dc44_r10, dc44_r11, dc44_r12, dc44_r13, dc44_r14, dc44_r15, dc44_r16, dc44_r17, dc44_r18, dc44, DL.dI, DL.dB, DL.dS, DL.dI, DL.dS, h0, h8, ht, DL.wrap_id]
          exact ⟨by omega, ⟨_, rfl⟩, fun _ => e', fun h => h.elim⟩
        · have e' : isLetter b = true := by simpa using e
          simp -dsimp -implicitDefEqProofs (maxSteps := 1000000) (disch := first | omega | (simp only [List.length_append, List.length_cons, List.length_nil]; omega) | (intros; simp only [ne_eq, reduceCtorEq, not_false_eq_true] <;> fail)) only [DL.R, Nat.reduceEqDiff, ↓reduceIte, reduceCtorEq, Int.reduceToNat, Int.reduceLE, Int.reduceLT, Nat.reduceLeDiff, Nat.reduceAdd, Nat.reduceMul, Int.reduceBNe, Int.reduceBEq, Int.cast_ofNat_Int, decide_true, decide_false, ne_eq, eq_self, implies_true, dc44_r0, dc44_r1, dc44_r2, dc44_r3, dc44_r4, dc44_r5, dc44_r6, dc44_r7, dc44_r8, dc44_r9, dc44_r10, dc44_r11, dc44_r12, dc44_r13, dc44_r14, dc44_r15, dc44_r16, dc44_r17, dc44_r18, dc44, DL.dI, DL.dB, DL.dS, DL.dI, DL.dS, h0, h8]
          refine loop_i (fun s'' H'' => H'' = H ++ (Gs ++ [.box 96 [.fn 52 [], .fn 108 []]]) ∧ s'' 0 = dS (str (b :: r)) ∧ s'' 4 = .ptr (H.length + Gs.length) 0 ∧ ∃ n : Nat, n ≤ r.length ∧ s'' 5 = dI (n + 1) ∧ (r.takeWhile isEither).length = n + ((r.drop n).takeWhile isEither).length) (fun s'' _ => r.length + 1 - (s'' 5).toN) ?_ ?_
          · simp -dsimp -implicitDefEqProofs (maxSteps := 1000000) (disch := first | omega | (simp only [List.length_append, List.length_cons, List.length_nil]; omega) | (intros; simp only [ne_eq, reduceCtorEq, not_false_eq_true] <;> fail)) only [DL.R, Nat.reduceEqDiff, ↓reduceIte, reduceCtorEq, Int.reduceToNat, Int.reduceLE, Int.reduceLT, Nat.reduceLeDiff, Nat.reduceAdd, Nat.reduceMul, Int.reduceBNe, Int.reduceBEq, Int.cast_ofNat_Int, decide_true, decide_false, ne_eq, eq_self, implies_true, dc44_r0, dc44_r1, dc44_r2, dc44_r3, dc44_r4, dc44_r5, dc44_r6, dc44_r7, dc44_r8, dc44_r9, dc44_r10, dc44_r11, dc44_r12, dc44_r13, dc44_r14, dc44_r15, dc44_r16, dc44_r17, dc44_r18, dc44, DL.dI, DL.dB, DL.dS, DL.dI, DL.dS, h0, h8]
            exact ⟨0, by omega, rfl, by simp⟩
          · rintro s'' H'' ⟨rfl, g0, g4, n, hn, g5, hw⟩
            simp -dsimp -implicitDefEqProofs (maxSteps := 1000000) (disch := first | omega | (simp only [List.length_append, List.length_cons, List.length_nil]; omega) | (intros; simp only [ne_eq, reduceCtorEq, not_false_eq_true] <;> fail)) only [DL.R, Nat.reduceEqDiff, ↓reduceIte, reduceCtorEq, Int.reduceToNat, Int.reduceLE, Int.reduceLT, Nat.reduceLeDiff, Nat.reduceAdd, Nat.reduceMul, Int.reduceBNe, Int.reduceBEq, Int.cast_ofNat_Int, decide_true, decide_false, ne_eq, eq_self, implies_true, dc44_r0, dc44_r1, dc44_r2, dc44_r3, dc44_r4, dc44_r5, dc44_r6, dc44_r7, dc44_r8, dc44_r9, dc44_r10, dc44_r11, dc44_r12, dc44_r13, dc44_r14, dc44_r15, dc44_r16, dc44_r17, dc44_r18, dc44, DL.dI, DL.dB, DL.dS, DL.dI, DL.dS, g0, g4, g5]
            refine onG_i (fun c1 => ?_) (fun c1 => ?_)
            · have c2 : n < r.length := by simp at c1; omega
              have hdn : r.drop n = r[n] :: r.drop (n + 1) := List.drop_eq_getElem_cons c2
              simp -dsimp -implicitDefEqProofs (maxSteps := 1000000) (disch := first | omega | (simp only [List.length_append, List.length_cons, List.length_nil]; omega) | (intros; simp only [ne_eq, reduceCtorEq, not_false_eq_true] <;> fail)) only [DL.R, Nat.reduceEqDiff, ↓reduceIte, reduceCtorEq, Int.reduceToNat, Int.reduceLE, Int.reduceLT, Nat.reduceLeDiff, Nat.reduceAdd, Nat.reduceMul, Int.reduceBNe, Int.reduceBEq, Int.cast_ofNat_Int, decide_true, decide_false, ne_eq, eq_self, implies_true, dc44_r0, dc44_r1, dc44_r2, dc44_r3, dc44_r4, dc44_r5, dc44_r6, dc44_r7, dc44_r8, dc44_r9, dc44_r10, dc44_r11, dc44_r12, dc44_r13, dc44_r14, dc44_r15, dc44_r16, dc44_r17, dc44_r18, dc44, DL.dI, DL.dB, DL.dS, DL.dI, DL.dS, g0, g4, g5, show ((n : Int) + 1).toNat = n + 1 from by omega, List.getElem_cons_succ]
              refine callD_i (CA := CallA Tryd.prog G) (f := 108) (caps := []) (args := [.lit (.int .u8 (r[n]).toNat)]) (dB (isEither r[n])) (fun Q hQ => either_spec r[n] hQ) ?_
              simp -dsimp -implicitDefEqProofs (maxSteps := 1000000) (disch := first | omega | (simp only [List.length_append, List.length_cons, List.length_nil]; omega) | (intros; simp only [ne_eq, reduceCtorEq, not_false_eq_true] <;> fail)) only [DL.R, Nat.reduceEqDiff, ↓reduceIte, reduceCtorEq, Int.reduceToNat, Int.reduceLE, Int.reduceLT, Nat.reduceLeDiff, Nat.reduceAdd, Nat.reduceMul, Int.reduceBNe, Int.reduceBEq, Int.cast_ofNat_Int, decide_true, decide_false, ne_eq, eq_self, implies_true, dc44_r0, dc44_r1, dc44_r2, dc44_r3, dc44_r4, dc44_r5, dc44_r6, dc44_r7, dc44_r8, dc44_r9, dc44_r10, dc44_r11, dc44_r12, dc44_r13, dc44_r14, dc44_r15, dc44_r16, dc44_r17, dc44_r18, dc44, DL.dI, DL.dB, DL.dS, DL.dI, DL.dS, DL.dB, g0, g4, g5]
              refine onB_i (fun f => ?_) (fun f => ?_)
              · simp -dsimp -implicitDefEqProofs (maxSteps := 1000000) (disch := first | omega | (simp only [List.length_append, List.length_cons, List.length_nil]; omega) | (intros; simp only [ne_eq, reduceCtorEq, not_false_eq_true] <;> fail)) only [DL.R, Nat.reduceEqDiff, ↓reduceIte, reduceCtorEq, Int.reduceToNat, Int.reduceLE, Int.reduceLT, Nat.reduceLeDiff, Nat.reduceAdd, Nat.reduceMul, Int.reduceBNe, Int.reduceBEq, Int.cast_ofNat_Int, decide_true, decide_false, ne_eq, eq_self, implies_true, dc44_r0, dc44_r1, dc44_r2, dc44_r3, dc44_r4, dc44_r5, dc44_r6, dc44_r7, dc44_r8, dc44_r9, dc44_r10, dc44_r11, dc44_r12, dc44_r13, dc44_r14, dc44_r15, dc44_r16, dc44_r17, dc44_r18, dc44, DL.dI, DL.dB, DL.dS, DL.dI, DL.dS, DL.dB, g0, g4, g5, DL.wrap_id, DL.D.toN]
                refine ⟨⟨n + 1, by omega, by simp, ?_⟩, by omega⟩
                rw [hw, hdn, List.takeWhile_cons, if_pos f]; simp; omega
              · have hlen : (r.takeWhile isEither).length = n := by rw [hw, hdn, List.takeWhile_cons, if_neg (by simp [f])]; simp
                simp -dsimp -implicitDefEqProofs (maxSteps := 1000000) (disch := first | omega | (simp only [List.length_append, List.length_cons, List.length_nil]; omega) | (intros; simp only [ne_eq, reduceCtorEq, not_false_eq_true] <;> fail)) only [DL.R, Nat.reduceEqDiff, ↓reduceIte, reduceCtorEq, Int.reduceToNat, Int.reduceLE, Int.reduceLT, Nat.reduceLeDiff, Nat.reduceAdd, Nat.reduceMul, Int.reduceBNe, Int.reduceBEq, Int.cast_ofNat_Int, decide_true, decide_false, ne_eq, eq_self, implies_true, dc44_r0, dc44_r1, dc44_r2, dc44_r3, dc44_r4, dc44_r5, dc44_r6, dc44_r7, dc44_r8, dc44_r9, dc44_r10, dc44_r11, dc44_r12, dc44_r13, dc44_r14, dc44_r15, dc44_r16, dc44_r17, dc44_r18, dc44, DL.dI, DL.dB, DL.dS, DL.dI, DL.dS, DL.dB, g0, g4, g5]
                refine onB_i (fun q => ?_) (fun q => ?_)
                · simp -dsimp -implicitDefEqProofs (maxSteps := 1000000) (disch := first | omega | (simp only [List.length_append, List.length_cons, List.length_nil]; omega) | (intros; simp only [ne_eq, reduceCtorEq, not_false_eq_true] <;> fail)) only [DL.R, Nat.reduceEqDiff, ↓reduceIte, reduceCtorEq, Int.reduceToNat, Int.reduceLE, Int.reduceLT, Nat.reduceLeDiff, Nat.reduceAdd, Nat.reduceMul, Int.reduceBNe, Int.reduceBEq, Int.cast_ofNat_Int, decide_true, decide_false, ne_eq, eq_self, implies_true, dc44_r0, dc44_r1, dc44_r2, dc44_r3, dc44_r4, dc44_r5, dc44_r6, dc44_r7, dc44_r8, dc44_r9, dc44_r10, dc44_r11, dc44_r12, dc44_r13, dc44_r14, dc44_r15, dc44_r16, dc44_r17, dc44_r18, dc44, DL.dI, DL.dB, DL.dS, DL.dI, DL.dS, DL.dB, g0, g4, g5]
                  have : tok (b :: r) = 0 := by simp at q; simp [tok, e', short, hlen]; first | omega | (split <;> omega)
                  rw [this] at hQ; exact ⟨_, rfl, .lit _, hQ⟩
                · simp -dsimp -implicitDefEqProofs (maxSteps := 1000000) (disch := first | omega | (simp only [List.length_append, List.length_cons, List.length_nil]; omega) | (intros; simp only [ne_eq, reduceCtorEq, not_false_eq_true] <;> fail)) only [DL.R, Nat.reduceEqDiff, ↓reduceIte, reduceCtorEq, Int.reduceToNat, Int.reduceLE, Int.reduceLT, Nat.reduceLeDiff, Nat.reduceAdd, Nat.reduceMul, Int.reduceBNe, Int.reduceBEq, Int.cast_ofNat_Int, decide_true, decide_false, ne_eq, eq_self, implies_true, dc44_r0, dc44_r1, dc44_r2, dc44_r3, dc44_r4, dc44_r5, dc44_r6, dc44_r7, dc44_r8, dc44_r9, dc44_r10, dc44_r11, dc44_r12, dc44_r13, dc44_r14, dc44_r15, dc44_r16, dc44_r17, dc44_r18, dc44, DL.dI, DL.dB, DL.dS, DL.dI, DL.dS, DL.dB, g0, g4, g5]
                  have : tok (b :: r) = n + 1 := by simp at q; simp [tok, e', short, hlen]; first | omega | (split <;> omega)
                  rw [this] at hQ; exact ⟨_, rfl, .lit _, by simpa using hQ⟩
            · have c2 : n = r.length := by simp at c1; omega
              have hlen : (r.takeWhile isEither).length = n := by rw [hw, c2]; simp
              simp -dsimp -implicitDefEqProofs (maxSteps := 1000000) (disch := first | omega | (simp only [List.length_append, List.length_cons, List.length_nil]; omega) | (intros; simp only [ne_eq, reduceCtorEq, not_false_eq_true] <;> fail)) only [DL.R, Nat.reduceEqDiff, ↓reduceIte, reduceCtorEq, Int.reduceToNat, Int.reduceLE, Int.reduceLT, Nat.reduceLeDiff, Nat.reduceAdd, Nat.reduceMul, Int.reduceBNe, Int.reduceBEq, Int.cast_ofNat_Int, decide_true, decide_false, ne_eq, eq_self, implies_true, dc44_r0, dc44_r1, dc44_r2, dc44_r3, dc44_r4, dc44_r5, dc44_r6, dc44_r7, dc44_r8, dc44_r9, dc44_r10, dc44_r11, dc44_r12, dc44_r13, dc44_r14, dc44_r15, dc44_r16, dc44_r17, dc44_r18, dc44, DL.dI, DL.dB, DL.dS, DL.dI, DL.dS, g0, g4, g5]
              refine onB_i (fun q => ?_) (fun q => ?_)
              · simp -dsimp -implicitDefEqProofs (maxSteps := 1000000) (disch := first | omega | (simp only [List.length_append, List.length_cons, List.length_nil]; omega) | (intros; simp only [ne_eq, reduceCtorEq, not_false_eq_true] <;> fail)) only [DL.R, Nat.reduceEqDiff, ↓reduceIte, reduceCtorEq, Int.reduceToNat, Int.reduceLE, Int.reduceLT, Nat.reduceLeDiff, Nat.reduceAdd, Nat.reduceMul, Int.reduceBNe, Int.reduceBEq, Int.cast_ofNat_Int, decide_true, decide_false, ne_eq, eq_self, implies_true, dc44_r0, dc44_r1, dc44_r2, dc44_r3, dc44_r4, dc44_r5, dc44_r6, dc44_r7, dc44_r8, dc44_r9, dc44_r10, dc44_r11, dc44_r12, dc44_r13, dc44_r14, dc44_r15, dc44_r16, dc44_r17, dc44_r18, dc44, DL.dI, DL.dB, DL.dS, DL.dI, DL.dS, DL.dB, g0, g4, g5]
                have : tok (b :: r) = 0 := by simp at q; simp [tok, e', short, hlen]; first | omega | (split <;> omega)
                rw [this] at hQ; exact ⟨_, rfl, .lit _, hQ⟩
              · simp -dsimp -implicitDefEqProofs (maxSteps := 1000000) (disch := first | omega | (simp only [List.length_append, List.length_cons, List.length_nil]; omega) | (intros; simp only [ne_eq, reduceCtorEq, not_false_eq_true] <;> fail)) only [DL.R, Nat.reduceEqDiff, ↓reduceIte, reduceCtorEq, Int.reduceToNat, Int.reduceLE, Int.reduceLT, Nat.reduceLeDiff, Nat.reduceAdd, Nat.reduceMul, Int.reduceBNe, Int.reduceBEq, Int.cast_ofNat_Int, decide_true, decide_false, ne_eq, eq_self, implies_true, dc44_r0, dc44_r1, dc44_r2, dc44_r3, dc44_r4, dc44_r5, dc44_r6, dc44_r7, dc44_r8, dc44_r9, dc44_r10, dc44_r11, dc44_r12, dc44_r13, dc44_r14, dc44_r15, dc44_r16, dc44_r17, dc44_r18, dc44, DL.dI, DL.dB, DL.dS, DL.dI, DL.dS, DL.dB, g0, g4, g5]
                have : tok (b :: r) = n + 1 := by simp at q; simp [tok, e', short, hlen]; first | omega | (split <;> omega)
                rw [this] at hQ; exact ⟨_, rfl, .lit _, by simpa using hQ⟩
      · have ht : s' 9 = dI 1 := ht
        simp -dsimp -implicitDefEqProofs (maxSteps := 1000000) (disch := first | omega | (simp only [List.length_append, List.length_cons, List.length_nil]; omega) | (intros; simp only [ne_eq, reduceCtorEq, not_false_eq_true] <;> fail)) only [DL.R, Nat.reduceEqDiff, ↓reduceIte, reduceCtorEq, Int.reduceToNat, Int.reduceLE, Int.reduceLT, Nat.reduceLeDiff, Nat.reduceAdd, Nat.reduceMul, Int.reduceBNe, Int.reduceBEq, Int.cast_ofNat_Int, decide_true, decide_false, ne_eq, eq_self, implies_true, dc44_r0, dc44_r1, dc44_r2, dc44_r3, dc44_r4, dc44_r5, dc44_r6, dc44_r7, dc44_r8, dc44_r9, dc44_r10, dc44_r11, dc44_r12, dc44_r13, dc44_r14, dc44_r15, dc44_r16, dc44_r17, dc44_r18, dc44, DL.dI, DL.dB, DL.dS, DL.dI, DL.dS, h0, h8, ht]
        refine callD_i (CA := CallA Tryd.prog G) (f := 109) (caps := []) (args := [.lit (.int .u8 b.toNat)]) (dB (isDigit b)) (fun Q hQ => digit_spec b hQ) ?_
        simp -dsimp -implicitDefEqProofs (maxSteps := 1000000) (disch := first | omega | (simp only [List.length_append, List.length_cons, List.length_nil]; omega) | (intros; simp only [ne_eq, reduceCtorEq, not_false_eq_true] <;> fail)) only [DL.R, Nat.reduceEqDiff, ↓reduceIte, reduceCtorEq, Int.reduceToNat, Int.reduceLE, Int.reduceLT, Nat.reduceLeDiff, Nat.reduceAdd, Nat.reduceMul, Int.reduceBNe, Int.reduceBEq, Int.cast_ofNat_Int, decide_true, decide_false, ne_eq, eq_self, implies_true, dc44_r0, dc44_r1, dc44_r2, dc44_r3, dc44_r4, dc44_r5, dc44_r6, dc44_r7, dc44_r8, dc44_r9, dc44_r10, dc44_r11, dc44_r12, dc44_r13, dc44_r14, dc44_r15, dc44_r16, dc44_r17, dc44_r18, dc44, DL.dI, DL.dB, DL.dS, DL.dI, DL.dS, DL.dB, h0, h8]
        refine onB_i (fun e => ?_) (fun e => ?_)
        · have e' : isDigit b = false := by simpa using e
          simp -dsimp -implicitDefEqProofs (maxSteps := 1000000) (disch := first | omega | (simp only [List.length_append, List.length_cons, List.length_nil]; omega) | (intros; simp only [ne_eq, reduceCtorEq, not_false_eq_true] <;> fail)) only [DL.R, Nat.reduceEqDiff, ↓reduceIte, reduceCtorEq, Int.reduceToNat, Int.reduceLE, Int.reduceLT, Nat.reduceLeDiff, Nat.reduceAdd, Nat.reduceMul, Int.reduceBNe, Int.reduceBEq, Int.cast_ofNat_Int, decide_true, decide_false, ne_eq, eq_self, implies_true, dc44_r0, dc44_r1, dc44_r2, dc44_r3, dc44_r4, dc44_r5, dc44_r6, dc44_r7, dc44_r8, dc44_r9, dc44_r10, dc44_r11, dc44_r12, dc44_r13, dc44_r14, dc44_r15, dc44_r16, dc44_r17, dc44_r18, dc44, DL.dI, DL.dB, DL.dS, DL.dI, DL.dS, h0, h8, ht, DL.wrap_id]
          exact ⟨by omega, ⟨_, rfl⟩, fun _ => hA (by omega), fun _ => e'⟩
        · have e' : isDigit b = true := by simpa using e
          simp -dsimp -implicitDefEqProofs (maxSteps := 1000000) (disch := first | omega | (simp only [List.length_append, List.length_cons, List.length_nil]; omega) | (intros; simp only [ne_eq, reduceCtorEq, not_false_eq_true] <;> fail)) only [DL.R, Nat.reduceEqDiff, ↓reduceIte, reduceCtorEq, Int.reduceToNat, Int.reduceLE, Int.reduceLT, Nat.reduceLeDiff, Nat.reduceAdd, Nat.reduceMul, Int.reduceBNe, Int.reduceBEq, Int.cast_ofNat_Int, decide_true, decide_false, ne_eq, eq_self, implies_true, dc44_r0, dc44_r1, dc44_r2, dc44_r3, dc44_r4, dc44_r5, dc44_r6, dc44_r7, dc44_r8, dc44_r9, dc44_r10, dc44_r11, dc44_r12, dc44_r13, dc44_r14, dc44_r15, dc44_r16, dc44_r17, dc44_r18, dc44, DL.dI, DL.dB, DL.dS, DL.dI, DL.dS, h0, h8]
          refine loop_i (fun s'' H'' => H'' = H ++ (Gs ++ [.box 96 [.fn 109 [], .fn 109 []]]) ∧ s'' 0 = dS (str (b :: r)) ∧ s'' 4 = .ptr (H.length + Gs.length) 0 ∧ ∃ n : Nat, n ≤ r.length ∧ s'' 5 = dI (n + 1) ∧ (r.takeWhile isDigit).length = n + ((r.drop n).takeWhile isDigit).length) (fun s'' _ => r.length + 1 - (s'' 5).toN) ?_ ?_
          · simp -dsimp -implicitDefEqProofs (maxSteps := 1000000) (disch := first | omega | (simp only [List.length_append, List.length_cons, List.length_nil]; omega) | (intros; simp only [ne_eq, reduceCtorEq, not_false_eq_true] <;> fail)) only [DL.R, Nat.reduceEqDiff, ↓reduceIte, reduceCtorEq, Int.reduceToNat, Int.reduceLE, Int.reduceLT, Nat.reduceLeDiff, Nat.reduceAdd, Nat.reduceMul, Int.reduceBNe, Int.reduceBEq, Int.cast_ofNat_Int, decide_true, decide_false, ne_eq, eq_self, implies_true, dc44_r0, dc44_r1, dc44_r2, dc44_r3, dc44_r4, dc44_r5, dc44_r6, dc44_r7, dc44_r8, dc44_r9, dc44_r10, dc44_r11, dc44_r12, dc44_r13, dc44_r14, dc44_r15, dc44_r16, dc44_r17, dc44_r18, dc44, DL.dI, DL.dB, DL.dS, DL.dI, DL.dS, h0, h8]
            exact ⟨0, by omega, rfl, by simp⟩
          · rintro s'' H'' ⟨rfl, g0, g4, n, hn, g5, hw⟩
            simp -dsimp -implicitDefEqProofs (maxSteps := 1000000) (disch := first | omega | (simp only [List.length_append, List.length_cons, List.length_nil]; omega) | (intros; simp only [ne_eq, reduceCtorEq, not_false_eq_true] <;> fail)) only [DL.R, Nat.reduceEqDiff, ↓reduceIte, reduceCtorEq, Int.reduceToNat, Int.reduceLE, Int.reduceLT, Nat.reduceLeDiff, Nat.reduceAdd, Nat.reduceMul, Int.reduceBNe, Int.reduceBEq, Int.cast_ofNat_Int, decide_true, decide_false, ne_eq, eq_self, implies_true, dc44_r0, dc44_r1, dc44_r2, dc44_r3, dc44_r4, dc44_r5, dc44_r6, dc44_r7, dc44_r8, dc44_r9, dc44_r10, dc44_r11, dc44_r12, dc44_r13, dc44_r14, dc44_r15, dc44_r16, dc44_r17, dc44_r18, dc44, DL.dI, DL.dB, DL.dS, DL.dI, DL.dS, g0, g4, g5]
            refine onG_i (fun c1 => ?_) (fun c1 => ?_)
            · have c2 : n < r.length := by simp at c1; omega
              have hdn : r.drop n = r[n] :: r.drop (n + 1) := List.drop_eq_getElem_cons c2
              simp -dsimp -implicitDefEqProofs (maxSteps := 1000000) (disch := first | omega | (simp only [List.length_append, List.length_cons, List.length_nil]; omega) | (intros; simp only [ne_eq, reduceCtorEq, not_false_eq_true] <;> fail)) only [DL.R, Nat.reduceEqDiff, ↓reduceIte, reduceCtorEq, Int.reduceToNat, Int.reduceLE, Int.reduceLT, Nat.reduceLeDiff, Nat.reduceAdd, Nat.reduceMul, Int.reduceBNe, Int.reduceBEq, Int.cast_ofNat_Int, decide_true, decide_false, ne_eq, eq_self, implies_true, dc44_r0, dc44_r1, dc44_r2, dc44_r3, dc44_r4, dc44_r5, dc44_r6, dc44_r7, dc44_r8, dc44_r9, dc44_r10, dc44_r11, dc44_r12, dc44_r13, dc44_r14, dc44_r15, dc44_r16, dc44_r17, dc44_r18, dc44, DL.dI, DL.dB, DL.dS, DL.dI, DL.dS, g0, g4, g5, show ((n : Int) + 1).toNat = n + 1 from by omega, List.getElem_cons_succ]
              refine callD_i (CA := CallA Tryd.prog G) (f := 109) (caps := []) (args := [.lit (.int .u8 (r[n]).toNat)]) (dB (isDigit r[n])) (fun Q hQ => digit_spec r[n] hQ) ?_
              simp -dsimp -implicitDefEqProofs (maxSteps := 1000000) (disch := first | omega | (simp only [List.length_append, List.length_cons, List.length_nil]; omega) | (intros; simp only [ne_eq, reduceCtorEq, not_false_eq_true] <;> fail)) only [DL.R, Nat.reduceEqDiff, ↓reduceIte, reduceCtorEq, Int.reduceToNat, Int.reduceLE, Int.reduceLT, Nat.reduceLeDiff, Nat.reduceAdd, Nat.reduceMul, Int.reduceBNe, Int.reduceBEq, Int.cast_ofNat_Int, decide_true, decide_false, ne_eq, eq_self, implies_true, dc44_r0, dc44_r1, dc44_r2, dc44_r3, dc44_r4, dc44_r5, dc44_r6, dc44_r7, dc44_r8, dc44_r9, dc44_r10, dc44_r11, dc44_r12, dc44_r13, dc44_r14, dc44_r15, dc44_r16, dc44_r17, dc44_r18, dc44, DL.dI, DL.dB, DL.dS, DL.dI, DL.dS, DL.dB, g0, g4, g5]
              refine onB_i (fun f => ?_) (fun f => ?_)
              · simp -dsimp -implicitDefEqProofs (maxSteps := 1000000) (disch := first | omega | (simp only [List.length_append, List.length_cons, List.length_nil]; omega) | (intros; simp only [ne_eq, reduceCtorEq, not_false_eq_true] <;> fail)) only [DL.R, Nat.reduceEqDiff, ↓reduceIte, reduceCtorEq, Int.reduceToNat, Int.reduceLE, Int.reduceLT, Nat.reduceLeDiff, Nat.reduceAdd, Nat.reduceMul, Int.reduceBNe, Int.reduceBEq, Int.cast_ofNat_Int, decide_true, decide_false, ne_eq, eq_self, implies_true, dc44_r0, dc44_r1, dc44_r2, dc44_r3, dc44_r4, dc44_r5, dc44_r6, dc44_r7, dc44_r8, dc44_r9, dc44_r10, dc44_r11, dc44_r12, dc44_r13, dc44_r14, dc44_r15, dc44_r16, dc44_r17, dc44_r18, dc44, DL.dI, DL.dB, DL.dS, DL.dI, DL.dS, DL.dB, g0, g4, g5, DL.wrap_id, DL.D.toN]
                refine ⟨⟨n + 1, by omega, by simp, ?_⟩, by omega⟩
                rw [hw, hdn, List.takeWhile_cons, if_pos f]; simp; omega
              · have hlen : (r.takeWhile isDigit).length = n := by rw [hw, hdn, List.takeWhile_cons, if_neg (by simp [f])]; simp
                simp -dsimp -implicitDefEqProofs (maxSteps := 1000000) (disch := first | omega | (simp only [List.length_append, List.length_cons, List.length_nil]; omega) | (intros; simp only [ne_eq, reduceCtorEq, not_false_eq_true] <;> fail)) only [DL.R, Nat.reduceEqDiff, ↓reduceIte, reduceCtorEq, Int.reduceToNat, Int.reduceLE, Int.reduceLT, Nat.reduceLeDiff, Nat.reduceAdd, Nat.reduceMul, Int.reduceBNe, Int.reduceBEq, Int.cast_ofNat_Int, decide_true, decide_false, ne_eq, eq_self, implies_true, dc44_r0, dc44_r1, dc44_r2, dc44_r3, dc44_r4, dc44_r5, dc44_r6, dc44_r7, dc44_r8, dc44_r9, dc44_r10, dc44_r11, dc44_r12, dc44_r13, dc44_r14, dc44_r15, dc44_r16, dc44_r17, dc44_r18, dc44, DL.dI, DL.dB, DL.dS, DL.dI, DL.dS, DL.dB, g0, g4, g5]
                refine onB_i (fun q => ?_) (fun q => ?_)
                · simp -dsimp -implicitDefEqProofs (maxSteps := 1000000) (disch := first | omega | (simp only [List.length_append, List.length_cons, List.length_nil]; omega) | (intros; simp only [ne_eq, reduceCtorEq, not_false_eq_true] <;> fail)) only [DL.R, Nat.reduceEqDiff, ↓reduceIte, reduceCtorEq, Int.reduceToNat, Int.reduceLE, Int.reduceLT, Nat.reduceLeDiff, Nat.reduceAdd, Nat.reduceMul, Int.reduceBNe, Int.reduceBEq, Int.cast_ofNat_Int, decide_true, decide_false, ne_eq, eq_self, implies_true, dc44_r0, dc44_r1, dc44_r2, dc44_r3, dc44_r4, dc44_r5, dc44_r6, dc44_r7, dc44_r8, dc44_r9, dc44_r10, dc44_r11, dc44_r12, dc44_r13, dc44_r14, dc44_r15, dc44_r16, dc44_r17, dc44_r18, dc44, DL.dI, DL.dB, DL.dS, DL.dI, DL.dS, DL.dB, g0, g4, g5]
                  have : tok (b :: r) = 0 := by simp at q; simp [tok, hA (by omega), e', short, hlen]; first | omega | (split <;> omega)
                  rw [this] at hQ; exact ⟨_, rfl, .lit _, hQ⟩
                · simp -dsimp -implicitDefEqProofs (maxSteps := 1000000) (disch := first | omega | (simp only [List.length_append, List.length_cons, List.length_nil]; omega) | (intros; simp only [ne_eq, reduceCtorEq, not_false_eq_true] <;> fail)) only [DL.R, Nat.reduceEqDiff, ↓reduceIte, reduceCtorEq, Int.reduceToNat, Int.reduceLE, Int.reduceLT, Nat.reduceLeDiff, Nat.reduceAdd, Nat.reduceMul, Int.reduceBNe, Int.reduceBEq, Int.cast_ofNat_Int, decide_true, decide_false, ne_eq, eq_self, implies_true, dc44_r0, dc44_r1, dc44_r2, dc44_r3, dc44_r4, dc44_r5, dc44_r6, dc44_r7, dc44_r8, dc44_r9, dc44_r10, dc44_r11, dc44_r12, dc44_r13, dc44_r14, dc44_r15, dc44_r16, dc44_r17, dc44_r18, dc44, DL.dI, DL.dB, DL.dS, DL.dI, DL.dS, DL.dB, g0, g4, g5]
                  have : tok (b :: r) = n + 1 := by simp at q; simp [tok, hA (by omega), e', short, hlen]; first | omega | (split <;> omega)
                  rw [this] at hQ; exact ⟨_, rfl, .lit _, by simpa using hQ⟩
            · have c2 : n = r.length := by simp at c1; omega
              have hlen : (r.takeWhile isDigit).length = n := by rw [hw, c2]; simp
              simp -dsimp -implicitDefEqProofs (maxSteps := 1000000) (disch := first | omega | (simp only [List.length_append, List.length_cons, List.length_nil]; omega) | (intros; simp only [ne_eq, reduceCtorEq, not_false_eq_true] <;> fail)) only [DL.R, Nat.reduceEqDiff, ↓reduceIte, reduceCtorEq, Int.reduceToNat, Int.reduceLE, Int.reduceLT, Nat.reduceLeDiff, Nat.reduceAdd, Nat.reduceMul, Int.reduceBNe, Int.reduceBEq, Int.cast_ofNat_Int, decide_true, decide_false, ne_eq, eq_self, implies_true, dc44_r0, dc44_r1, dc44_r2, dc44_r3, dc44_r4, dc44_r5, dc44_r6, dc44_r7, dc44_r8, dc44_r9, dc44_r10, dc44_r11, dc44_r12, dc44_r13, dc44_r14, dc44_r15, dc44_r16, dc44_r17, dc44_r18, dc44, DL.dI, DL.dB, DL.dS, DL.dI, DL.dS, g0, g4, g5]
              refine onB_i (fun q => ?_) (fun q => ?_)
              · simp -dsimp -implicitDefEqProofs (maxSteps := 1000000) (disch := first | omega | (simp only [List.length_append, List.length_cons, List.length_nil]; omega) | (intros; simp only [ne_eq, reduceCtorEq, not_false_eq_true] <;> fail)) only [DL.R, Nat.reduceEqDiff, ↓reduceIte, reduceCtorEq, Int.reduceToNat, Int.reduceLE, Int.reduceLT, Nat.reduceLeDiff, Nat.reduceAdd, Nat.reduceMul, Int.reduceBNe, Int.reduceBEq, Int.cast_ofNat_Int, decide_true, decide_false, ne_eq, eq_self, implies_true, dc44_r0, dc44_r1, dc44_r2, dc44_r3, dc44_r4, dc44_r5, dc44_r6, dc44_r7, dc44_r8, dc44_r9, dc44_r10, dc44_r11, dc44_r12, dc44_r13, dc44_r14, dc44_r15, dc44_r16, dc44_r17, dc44_r18, dc44, DL.dI, DL.dB, DL.dS, DL.dI, DL.dS, DL.dB, g0, g4, g5]
                have : tok (b :: r) = 0 := by simp at q; simp [tok, hA (by omega), e', short, hlen]; first | omega | (split <;> omega)
                rw [this] at hQ; exact ⟨_, rfl, .lit _, hQ⟩
              · simp -dsimp -implicitDefEqProofs (maxSteps := 1000000) (disch := first | omega | (simp only [List.length_append, List.length_cons, List.length_nil]; omega) | (intros; simp only [ne_eq, reduceCtorEq, not_false_eq_true] <;> fail)) only [DL.R, Nat.reduceEqDiff, ↓reduceIte, reduceCtorEq, Int.reduceToNat, Int.reduceLE, Int.reduceLT, Nat.reduceLeDiff, Nat.reduceAdd, Nat.reduceMul, Int.reduceBNe, Int.reduceBEq, Int.cast_ofNat_Int, decide_true, decide_false, ne_eq, eq_self, implies_true, dc44_r0, dc44_r1, dc44_r2, dc44_r3, dc44_r4, dc44_r5, dc44_r6, dc44_r7, dc44_r8, dc44_r9, dc44_r10, dc44_r11, dc44_r12, dc44_r13, dc44_r14, dc44_r15, dc44_r16, dc44_r17, dc44_r18, dc44, DL.dI, DL.dB, DL.dS, DL.dI, DL.dS, DL.dB, g0, g4, g5]
                have : tok (b :: r) = n + 1 := by simp at q; simp [tok, hA (by omega), e', short, hlen]; first | omega | (split <;> omega)
                rw [this] at hQ; exact ⟨_, rfl, .lit _, by simpa using hQ⟩
    · have c' : k = 2 := by simp at c; omega
      subst c'
      have htok : tok (b :: r) = ((signsL.find? fun x => Lib.hasPrefix (b :: r) x).map List.length).getD 0 := by simp [tok, hA (by omega), hB (by omega)]
      simp -dsimp -implicitDefEqProofs (maxSteps := 1000000) (disch := first | omega | (simp only [List.length_append, List.length_cons, List.length_nil]; omega) | (intros; simp only [ne_eq, reduceCtorEq, not_false_eq_true] <;> fail)) only [DL.R, Nat.reduceEqDiff, ↓reduceIte, reduceCtorEq, Int.reduceToNat, Int.reduceLE, Int.reduceLT, Nat.reduceLeDiff, Nat.reduceAdd, Nat.reduceMul, Int.reduceBNe, Int.reduceBEq, Int.cast_ofNat_Int, decide_true, decide_false, ne_eq, eq_self, implies_true, dc44_r0, dc44_r1, dc44_r2, dc44_r3, dc44_r4, dc44_r5, dc44_r6, dc44_r7, dc44_r8, dc44_r9, dc44_r10, dc44_r11, dc44_r12, dc44_r13, dc44_r14, dc44_r15, dc44_r16, dc44_r17, dc44_r18, dc44, DL.dI, DL.dB, DL.dS, DL.dI, DL.dS, h0, h8, hG3]
      refine ⟨by simp [strs, signsL], ?_⟩
      have h18 : List.take 18 (strs signsL) = strs signsL := List.take_of_length_le (by simp [strs, signsL])
      have h18' : signsL.length = 18 := rfl
      refine for_i 37 18 (fun k s' H' => H' = H ++ Gs ∧ s' 0 = dS (str (b :: r)) ∧ s' 36 = .agg (strs signsL) ∧ ∀ j, j < k → ∀ h : j < signsL.length, Lib.hasPrefix (b :: r) (signsL[j]'h) = false) ?_ ?_ ?_
      · simp -dsimp -implicitDefEqProofs (maxSteps := 1000000) (disch := first | omega | (simp only [List.length_append, List.length_cons, List.length_nil]; omega) | (intros; simp only [ne_eq, reduceCtorEq, not_false_eq_true] <;> fail)) only [DL.R, Nat.reduceEqDiff, ↓reduceIte, reduceCtorEq, Int.reduceToNat, Int.reduceLE, Int.reduceLT, Nat.reduceLeDiff, Nat.reduceAdd, Nat.reduceMul, Int.reduceBNe, Int.reduceBEq, Int.cast_ofNat_Int, decide_true, decide_false, ne_eq, eq_self, implies_true, DL.dI, DL.dB, DL.dS]
      · simp -dsimp -implicitDefEqProofs (maxSteps := 1000000) (disch := first | omega | (simp only [List.length_append, List.length_cons, List.length_nil]; omega) | (intros; simp only [ne_eq, reduceCtorEq, not_false_eq_true] <;> fail)) only [DL.R, Nat.reduceEqDiff, ↓reduceIte, reduceCtorEq, Int.reduceToNat, Int.reduceLE, Int.reduceLT, Nat.reduceLeDiff, Nat.reduceAdd, Nat.reduceMul, Int.reduceBNe, Int.reduceBEq, Int.cast_ofNat_Int, decide_true, decide_false, ne_eq, eq_self, implies_true, DL.dI, DL.dB, DL.dS, DL.dI, DL.dS, h0, h18]
        exact fun j hj => absurd hj (by omega)
      · rintro k s' H' hk ht ⟨rfl, h0, h36, hP⟩
        simp -dsimp -implicitDefEqProofs (maxSteps := 1000000) (disch := first | omega | (simp only [List.length_append, List.length_cons, List.length_nil]; omega) | (intros; simp only [ne_eq, reduceCtorEq, not_false_eq_true] <;> fail)) only [DL.R, Nat.reduceEqDiff, ↓reduceIte, reduceCtorEq, Int.reduceToNat, Int.reduceLE, Int.reduceLT, Nat.reduceLeDiff, Nat.reduceAdd, Nat.reduceMul, Int.reduceBNe, Int.reduceBEq, Int.cast_ofNat_Int, decide_true, decide_false, ne_eq, eq_self, implies_true, dc44_r0, dc44_r1, dc44_r2, dc44_r3, dc44_r4, dc44_r5, dc44_r6, dc44_r7, dc44_r8, dc44_r9, dc44_r10, dc44_r11, dc44_r12, dc44_r13, dc44_r14, dc44_r15, dc44_r16, dc44_r17, dc44_r18, dc44, DL.dI, DL.dB, DL.dS, DL.dI, DL.dS, h0, h36, ht]
        refine onB_i (fun c => ?_) (fun c => ?_)
        · have c' : k < 18 := by simp at c; omega
          have hat : List.take 1 (List.drop k (strs signsL)) = [dS (str (signsL[k]'(by omega)))] := by
            have : k < (strs signsL).length := by rw [strs_len]; omega
            rw [List.drop_eq_getElem_cons this]
            simp [strs]
          simp -dsimp -implicitDefEqProofs (maxSteps := 1000000) (disch := first | omega | (simp only [List.length_append, List.length_cons, List.length_nil]; omega) | (intros; simp only [ne_eq, reduceCtorEq, not_false_eq_true] <;> fail)) only [DL.R, Nat.reduceEqDiff, ↓reduceIte, reduceCtorEq, Int.reduceToNat, Int.reduceLE, Int.reduceLT, Nat.reduceLeDiff, Nat.reduceAdd, Nat.reduceMul, Int.reduceBNe, Int.reduceBEq, Int.cast_ofNat_Int, decide_true, decide_false, ne_eq, eq_self, implies_true, dc44_r0, dc44_r1, dc44_r2, dc44_r3, dc44_r4, dc44_r5, dc44_r6, dc44_r7, dc44_r8, dc44_r9, dc44_r10, dc44_r11, dc44_r12, dc44_r13, dc44_r14, dc44_r15, dc44_r16, dc44_r17, dc44_r18, dc44, DL.dI, DL.dB, DL.dS, DL.dI, DL.dS, h0, h36, ht, strs_len, h18', Nat.mul_one, hat]
          refine ⟨by omega, by omega, by omega, ?_⟩
          refine hasPrefix_call _ _ ?_
          simp -dsimp -implicitDefEqProofs (maxSteps := 1000000) (disch := first | omega | (simp only [List.length_append, List.length_cons, List.length_nil]; omega) | (intros; simp only [ne_eq, reduceCtorEq, not_false_eq_true] <;> fail)) only [DL.R, Nat.reduceEqDiff, ↓reduceIte, reduceCtorEq, Int.reduceToNat, Int.reduceLE, Int.reduceLT, Nat.reduceLeDiff, Nat.reduceAdd, Nat.reduceMul, Int.reduceBNe, Int.reduceBEq, Int.cast_ofNat_Int, decide_true, decide_false, ne_eq, eq_self, implies_true, dc44_r0, dc44_r1, dc44_r2, dc44_r3, dc44_r4, dc44_r5, dc44_r6, dc44_r7, dc44_r8, dc44_r9, dc44_r10, dc44_r11, dc44_r12, dc44_r13, dc44_r14, dc44_r15, dc44_r16, dc44_r17, dc44_r18, dc44, DL.dI, DL.dB, DL.dS, DL.dI, DL.dS, DL.dB, h0, h36, ht]
          refine onB_i (fun e => ?_) (fun e => ?_)
          · simp -dsimp -implicitDefEqProofs (maxSteps := 1000000) (disch := first | omega | (simp only [List.length_append, List.length_cons, List.length_nil]; omega) | (intros; simp only [ne_eq, reduceCtorEq, not_false_eq_true] <;> fail)) only [DL.R, Nat.reduceEqDiff, ↓reduceIte, reduceCtorEq, Int.reduceToNat, Int.reduceLE, Int.reduceLT, Nat.reduceLeDiff, Nat.reduceAdd, Nat.reduceMul, Int.reduceBNe, Int.reduceBEq, Int.cast_ofNat_Int, decide_true, decide_false, ne_eq, eq_self, implies_true, dc44_r0, dc44_r1, dc44_r2, dc44_r3, dc44_r4, dc44_r5, dc44_r6, dc44_r7, dc44_r8, dc44_r9, dc44_r10, dc44_r11, dc44_r12, dc44_r13, dc44_r14, dc44_r15, dc44_r16, dc44_r17, dc44_r18, dc44, DL.dI, DL.dB, DL.dS, DL.dI, DL.dS, DL.dB, h0, h36, ht]
            have hfind : signsL.find? (fun x => Lib.hasPrefix (b :: r) x) = some (signsL[k]'(by omega)) := by
              rw [List.find?_eq_some_iff_getElem]
              exact ⟨e, k, by omega, rfl, fun j hj => by simp [hP j hj (by omega)]⟩
            rw [htok, hfind] at hQ
            exact ⟨_, rfl, .lit _, hQ⟩
          · simp -dsimp -implicitDefEqProofs (maxSteps := 1000000) (disch := first | omega | (simp only [List.length_append, List.length_cons, List.length_nil]; omega) | (intros; simp only [ne_eq, reduceCtorEq, not_false_eq_true] <;> fail)) only [DL.R, Nat.reduceEqDiff, ↓reduceIte, reduceCtorEq, Int.reduceToNat, Int.reduceLE, Int.reduceLT, Nat.reduceLeDiff, Nat.reduceAdd, Nat.reduceMul, Int.reduceBNe, Int.reduceBEq, Int.cast_ofNat_Int, decide_true, decide_false, ne_eq, eq_self, implies_true, dc44_r0, dc44_r1, dc44_r2, dc44_r3, dc44_r4, dc44_r5, dc44_r6, dc44_r7, dc44_r8, dc44_r9, dc44_r10, dc44_r11, dc44_r12, dc44_r13, dc44_r14, dc44_r15, dc44_r16, dc44_r17, dc44_r18, dc44, DL.dI, DL.dB, DL.dS, DL.dI, DL.dS, DL.dB, h0, h36, ht, DL.wrap_id]
            refine ⟨c', fun j hj hjl => ?_⟩
            by_cases hjk : j < k
            · exact hP j hjk hjl
            · have : j = k := by omega
              subst this; exact e
        · have c' : ¬ k < 18 := by simp at c; omega
          simp -dsimp -implicitDefEqProofs (maxSteps := 1000000) (disch := first | omega | (simp only [List.length_append, List.length_cons, List.length_nil]; omega) | (intros; simp only [ne_eq, reduceCtorEq, not_false_eq_true] <;> fail)) only [DL.R, Nat.reduceEqDiff, ↓reduceIte, reduceCtorEq, Int.reduceToNat, Int.reduceLE, Int.reduceLT, Nat.reduceLeDiff, Nat.reduceAdd, Nat.reduceMul, Int.reduceBNe, Int.reduceBEq, Int.cast_ofNat_Int, decide_true, decide_false, ne_eq, eq_self, implies_true, dc44_r0, dc44_r1, dc44_r2, dc44_r3, dc44_r4, dc44_r5, dc44_r6, dc44_r7, dc44_r8, dc44_r9, dc44_r10, dc44_r11, dc44_r12, dc44_r13, dc44_r14, dc44_r15, dc44_r16, dc44_r17, dc44_r18, dc44, DL.dI, DL.dB, DL.dS, DL.dI, DL.dS, h0, h36, ht]
          have hnone : signsL.find? (fun x => Lib.hasPrefix (b :: r) x) = none := by
            rw [List.find?_eq_none]
            intro x hx
            obtain ⟨j, hj, rfl⟩ := List.mem_iff_getElem.1 hx
            simp [hP j (by omega) hj]
          rw [htok, hnone] at hQ
          exact ⟨_, rfl, .lit _, hQ⟩
end Go.Proofs.Tryd
set_option maxRecDepth 100000
set_option linter.unusedSimpArgs false
set_option linter.unusedVariables false
namespace Go.Proofs.Tryd
open Go Go.DL
variable {G : Nat → D} {H : List O} {Q : D → List O → Prop}
def isWhat (ks : List (List UInt8)) (s : List UInt8) : Bool := s == [97, 110, 121] || (s != [] && ks.contains s)
theorem what_spec (ks : List (List UInt8)) (hks : ks.length = 14) (s : List UInt8) (hG0 : G 0 = .el (strs ks)) (hQ : Q (dB (isWhat ks s)) H) : CallA Tryd.prog G 36 [dS (str s)] H Q := by
  refine s36 (Nat.le_of_ble_eq_true rfl) ?_
  have ht : List.take 14 (strs ks) = strs ks := List.take_of_length_le (by simp [strs, hks])
  simp -dsimp -implicitDefEqProofs (maxSteps := 1000000) (disch := first | omega | (simp only [List.length_append, List.length_cons, List.length_nil]; omega) | (intros; simp only [ne_eq, reduceCtorEq, not_false_eq_true] <;> fail)) only [DL.R, Nat.reduceEqDiff, ↓reduceIte, reduceCtorEq, Int.reduceToNat, Int.reduceLE, Int.reduceLT, Nat.reduceLeDiff, Nat.reduceAdd, Nat.reduceMul, Int.reduceBNe, Int.reduceBEq, Int.cast_ofNat_Int, decide_true, decide_false, ne_eq, eq_self, implies_true, dc36_r0, dc36_r1, dc36, DL.dI, DL.dB, DL.dS, DL.dI, DL.dB, DL.dS]
  refine onG_i (fun e1 => ?_) (fun e1 => ?_)
  · simp -dsimp -implicitDefEqProofs (maxSteps := 1000000) (disch := first | omega | (simp only [List.length_append, List.length_cons, List.length_nil]; omega) | (intros; simp only [ne_eq, reduceCtorEq, not_false_eq_true] <;> fail)) only [DL.R, Nat.reduceEqDiff, ↓reduceIte, reduceCtorEq, Int.reduceToNat, Int.reduceLE, Int.reduceLT, Nat.reduceLeDiff, Nat.reduceAdd, Nat.reduceMul, Int.reduceBNe, Int.reduceBEq, Int.cast_ofNat_Int, decide_true, decide_false, ne_eq, eq_self, implies_true, dc36_r0, dc36_r1, dc36, DL.dI, DL.dB, DL.dS, hG0]
    refine onG_i (fun e2 => ?_) (fun e2 => ?_)
    · simp -dsimp -implicitDefEqProofs (maxSteps := 1000000) (disch := first | omega | (simp only [List.length_append, List.length_cons, List.length_nil]; omega) | (intros; simp only [ne_eq, reduceCtorEq, not_false_eq_true] <;> fail)) only [DL.R, Nat.reduceEqDiff, ↓reduceIte, reduceCtorEq, Int.reduceToNat, Int.reduceLE, Int.reduceLT, Nat.reduceLeDiff, Nat.reduceAdd, Nat.reduceMul, Int.reduceBNe, Int.reduceBEq, Int.cast_ofNat_Int, decide_true, decide_false, ne_eq, eq_self, implies_true, dc36_r0, dc36_r1, dc36, DL.dI, DL.dB, DL.dS, hG0, strs_len, hks, ht]
      refine containsS_spec _ _ (by omega) ?_
      simp -dsimp -implicitDefEqProofs (maxSteps := 1000000) (disch := first | omega | (simp only [List.length_append, List.length_cons, List.length_nil]; omega) | (intros; simp only [ne_eq, reduceCtorEq, not_false_eq_true] <;> fail)) only [DL.R, Nat.reduceEqDiff, ↓reduceIte, reduceCtorEq, Int.reduceToNat, Int.reduceLE, Int.reduceLT, Nat.reduceLeDiff, Nat.reduceAdd, Nat.reduceMul, Int.reduceBNe, Int.reduceBEq, Int.cast_ofNat_Int, decide_true, decide_false, ne_eq, eq_self, implies_true, dc36_r0, dc36_r1, dc36, DL.dI, DL.dB, DL.dS, hG0, DL.dB]
      refine toB hQ ?_
      have e2' : (s != []) = true := e2
      unfold isWhat
      rw [e1, e2']; simp
    · simp -dsimp -implicitDefEqProofs (maxSteps := 1000000) (disch := first | omega | (simp only [List.length_append, List.length_cons, List.length_nil]; omega) | (intros; simp only [ne_eq, reduceCtorEq, not_false_eq_true] <;> fail)) only [DL.R, Nat.reduceEqDiff, ↓reduceIte, reduceCtorEq, Int.reduceToNat, Int.reduceLE, Int.reduceLT, Nat.reduceLeDiff, Nat.reduceAdd, Nat.reduceMul, Int.reduceBNe, Int.reduceBEq, Int.cast_ofNat_Int, decide_true, decide_false, ne_eq, eq_self, implies_true, dc36_r0, dc36_r1, dc36, DL.dI, DL.dB, DL.dS, hG0]
      refine toB hQ ?_
      simp_all [isWhat]
  · simp -dsimp -implicitDefEqProofs (maxSteps := 1000000) (disch := first | omega | (simp only [List.length_append, List.length_cons, List.length_nil]; omega) | (intros; simp only [ne_eq, reduceCtorEq, not_false_eq_true] <;> fail)) only [DL.R, Nat.reduceEqDiff, ↓reduceIte, reduceCtorEq, Int.reduceToNat, Int.reduceLE, Int.reduceLT, Nat.reduceLeDiff, Nat.reduceAdd, Nat.reduceMul, Int.reduceBNe, Int.reduceBEq, Int.cast_ofNat_Int, decide_true, decide_false, ne_eq, eq_self, implies_true, dc36_r0, dc36_r1, dc36, DL.dI, DL.dB, DL.dS, hG0]
    refine toB hQ ?_
    simp_all [isWhat]
def isWord (kw : List (List UInt8)) : List UInt8 → Bool
  | [] => false
  | b :: r => isLetter b && (tok (b :: r) == (b :: r).length) && !kw.contains (b :: r)
theorem word_spec (kw : List (List UInt8)) (hkw : kw.length = 27) (s : List UInt8) (hs : s.length ≤ 1099511627776) (hG1 : G 1 = .el (strs kw)) (hG2 : G 2 = kindsD) (hG3 : G 3 = .el (strs signsL)) (hQ : Q (dB (isWord kw s)) H) : CallA Tryd.prog G 37 [dS (str s)] H Q := by
  refine s37 (Nat.le_of_ble_eq_true rfl) ?_
  have ht : List.take 27 (strs kw) = strs kw := List.take_of_length_le (by simp [strs, hkw])
  simp -dsimp -implicitDefEqProofs (maxSteps := 1000000) (disch := first | omega | (simp only [List.length_append, List.length_cons, List.length_nil]; omega) | (intros; simp only [ne_eq, reduceCtorEq, not_false_eq_true] <;> fail)) only [DL.R, Nat.reduceEqDiff, ↓reduceIte, reduceCtorEq, Int.reduceToNat, Int.reduceLE, Int.reduceLT, Nat.reduceLeDiff, Nat.reduceAdd, Nat.reduceMul, Int.reduceBNe, Int.reduceBEq, Int.cast_ofNat_Int, decide_true, decide_false, ne_eq, eq_self, implies_true, dc37_r0, dc37_r1, dc37, DL.dI, DL.dB, DL.dS, DL.dI, DL.dB, DL.dS]
  cases s with
  | nil =>
    refine onG_i (fun e1 => by simp at e1) (fun e1 => ?_)
    simp -dsimp -implicitDefEqProofs (maxSteps := 1000000) (disch := first | omega | (simp only [List.length_append, List.length_cons, List.length_nil]; omega) | (intros; simp only [ne_eq, reduceCtorEq, not_false_eq_true] <;> fail)) only [DL.R, Nat.reduceEqDiff, ↓reduceIte, reduceCtorEq, Int.reduceToNat, Int.reduceLE, Int.reduceLT, Nat.reduceLeDiff, Nat.reduceAdd, Nat.reduceMul, Int.reduceBNe, Int.reduceBEq, Int.cast_ofNat_Int, decide_true, decide_false, ne_eq, eq_self, implies_true, dc37_r0, dc37_r1, dc37, DL.dI, DL.dB, DL.dS]
    exact toB hQ (by simp [isWord])
  | cons b r =>
    refine onG_i (fun e1 => ?_) (fun e1 => by simp at e1)
    simp -dsimp -implicitDefEqProofs (maxSteps := 1000000) (disch := first | omega | (simp only [List.length_append, List.length_cons, List.length_nil]; omega) | (intros; simp only [ne_eq, reduceCtorEq, not_false_eq_true] <;> fail)) only [DL.R, Nat.reduceEqDiff, ↓reduceIte, reduceCtorEq, Int.reduceToNat, Int.reduceLE, Int.reduceLT, Nat.reduceLeDiff, Nat.reduceAdd, Nat.reduceMul, Int.reduceBNe, Int.reduceBEq, Int.cast_ofNat_Int, decide_true, decide_false, ne_eq, eq_self, implies_true, dc37_r0, dc37_r1, dc37, DL.dI, DL.dB, DL.dS]
    refine letter_spec b ?_
    simp -dsimp -implicitDefEqProofs (maxSteps := 1000000) (disch := first | omega | (simp only [List.length_append, List.length_cons, List.length_nil]; omega) | (intros; simp only [ne_eq, reduceCtorEq, not_false_eq_true] <;> fail)) only [DL.R, Nat.reduceEqDiff, ↓reduceIte, reduceCtorEq, Int.reduceToNat, Int.reduceLE, Int.reduceLT, Nat.reduceLeDiff, Nat.reduceAdd, Nat.reduceMul, Int.reduceBNe, Int.reduceBEq, Int.cast_ofNat_Int, decide_true, decide_false, ne_eq, eq_self, implies_true, dc37_r0, dc37_r1, dc37, DL.dI, DL.dB, DL.dS, DL.dB]
    refine onG_i (fun e2 => ?_) (fun e2 => ?_)
    · simp -dsimp -implicitDefEqProofs (maxSteps := 1000000) (disch := first | omega | (simp only [List.length_append, List.length_cons, List.length_nil]; omega) | (intros; simp only [ne_eq, reduceCtorEq, not_false_eq_true] <;> fail)) only [DL.R, Nat.reduceEqDiff, ↓reduceIte, reduceCtorEq, Int.reduceToNat, Int.reduceLE, Int.reduceLT, Nat.reduceLeDiff, Nat.reduceAdd, Nat.reduceMul, Int.reduceBNe, Int.reduceBEq, Int.cast_ofNat_Int, decide_true, decide_false, ne_eq, eq_self, implies_true, dc37_r0, dc37_r1, dc37, DL.dI, DL.dB, DL.dS]
      refine token_spec b r (by simp at hs; omega) hG2 hG3 ?_
      simp -dsimp -implicitDefEqProofs (maxSteps := 1000000) (disch := first | omega | (simp only [List.length_append, List.length_cons, List.length_nil]; omega) | (intros; simp only [ne_eq, reduceCtorEq, not_false_eq_true] <;> fail)) only [DL.R, Nat.reduceEqDiff, ↓reduceIte, reduceCtorEq, Int.reduceToNat, Int.reduceLE, Int.reduceLT, Nat.reduceLeDiff, Nat.reduceAdd, Nat.reduceMul, Int.reduceBNe, Int.reduceBEq, Int.cast_ofNat_Int, decide_true, decide_false, ne_eq, eq_self, implies_true, dc37_r0, dc37_r1, dc37, DL.dI, DL.dB, DL.dS, DL.dI]
      refine onG_i (fun e3 => ?_) (fun e3 => ?_)
      · simp -dsimp -implicitDefEqProofs (maxSteps := 1000000) (disch := first | omega | (simp only [List.length_append, List.length_cons, List.length_nil]; omega) | (intros; simp only [ne_eq, reduceCtorEq, not_false_eq_true] <;> fail)) only [DL.R, Nat.reduceEqDiff, ↓reduceIte, reduceCtorEq, Int.reduceToNat, Int.reduceLE, Int.reduceLT, Nat.reduceLeDiff, Nat.reduceAdd, Nat.reduceMul, Int.reduceBNe, Int.reduceBEq, Int.cast_ofNat_Int, decide_true, decide_false, ne_eq, eq_self, implies_true, dc37_r0, dc37_r1, dc37, DL.dI, DL.dB, DL.dS, hG1, strs_len, hkw, ht]
        refine containsS_spec _ _ (by omega) ?_
        simp -dsimp -implicitDefEqProofs (maxSteps := 1000000) (disch := first | omega | (simp only [List.length_append, List.length_cons, List.length_nil]; omega) | (intros; simp only [ne_eq, reduceCtorEq, not_false_eq_true] <;> fail)) only [DL.R, Nat.reduceEqDiff, ↓reduceIte, reduceCtorEq, Int.reduceToNat, Int.reduceLE, Int.reduceLT, Nat.reduceLeDiff, Nat.reduceAdd, Nat.reduceMul, Int.reduceBNe, Int.reduceBEq, Int.cast_ofNat_Int, decide_true, decide_false, ne_eq, eq_self, implies_true, dc37_r0, dc37_r1, dc37, DL.dI, DL.dB, DL.dS, DL.dB]
        refine toB hQ ?_
        simp at e2 e3
        simp [isWord, e2]
        omega
      · simp -dsimp -implicitDefEqProofs (maxSteps := 1000000) (disch := first | omega | (simp only [List.length_append, List.length_cons, List.length_nil]; omega) | (intros; simp only [ne_eq, reduceCtorEq, not_false_eq_true] <;> fail)) only [DL.R, Nat.reduceEqDiff, ↓reduceIte, reduceCtorEq, Int.reduceToNat, Int.reduceLE, Int.reduceLT, Nat.reduceLeDiff, Nat.reduceAdd, Nat.reduceMul, Int.reduceBNe, Int.reduceBEq, Int.cast_ofNat_Int, decide_true, decide_false, ne_eq, eq_self, implies_true, dc37_r0, dc37_r1, dc37, DL.dI, DL.dB, DL.dS]
        refine toB hQ ?_
        simp at e2 e3
        simp [isWord, e2]
        omega
    · simp -dsimp -implicitDefEqProofs (maxSteps := 1000000) (disch := first | omega | (simp only [List.length_append, List.length_cons, List.length_nil]; omega) | (intros; simp only [ne_eq, reduceCtorEq, not_false_eq_true] <;> fail)) only [DL.R, Nat.reduceEqDiff, ↓reduceIte, reduceCtorEq, Int.reduceToNat, Int.reduceLE, Int.reduceLT, Nat.reduceLeDiff, Nat.reduceAdd, Nat.reduceMul, Int.reduceBNe, Int.reduceBEq, Int.cast_ofNat_Int, decide_true, decide_false, ne_eq, eq_self, implies_true, dc37_r0, dc37_r1, dc37, DL.dI, DL.dB, DL.dS]
      refine toB hQ ?_
      simp at e2
      simp [isWord, e2]
end Go.Proofs.Tryd
set_option maxRecDepth 100000
set_option linter.unusedSimpArgs false
set_option linter.unusedVariables false
namespace Go.Proofs.Tryd
open Go Go.DL
variable {G : Nat → D} {H : List O} {Q : D → List O → Prop}
structure Tok where
  text : List UInt8
  before : List UInt8
def tokD (t : Tok) : D := .agg [dS (str t.text), dS (str t.before)]
def toksD (l : List Tok) : List D := l.map tokD
def nextT : List Tok → List UInt8
  | [] => []
  | t :: _ => t.text
theorem next_spec (id : Nat) (e : TypeId) (l : List Tok) (bad : Bool) (hH : H[id]? = some (.box e [.sl (toksD l), dB bad])) (hQ : Q (dS (str (nextT l))) H) : CallA Tryd.prog G 48 [.ptr id 0] H Q := by
  refine s48 (Nat.le_of_ble_eq_true rfl) ?_
  cases l with
  | nil =>
    simp -dsimp -implicitDefEqProofs (maxSteps := 1000000) (disch := first | omega | (simp only [List.length_append, List.length_cons, List.length_nil]; omega) | (intros; simp only [ne_eq, reduceCtorEq, not_false_eq_true] <;> fail)) only [DL.R, Nat.reduceEqDiff, ↓reduceIte, reduceCtorEq, Int.reduceToNat, Int.reduceLE, Int.reduceLT, Nat.reduceLeDiff, Nat.reduceAdd, Nat.reduceMul, Int.reduceBNe, Int.reduceBEq, Int.cast_ofNat_Int, decide_true, decide_false, ne_eq, eq_self, implies_true, dc48_r0, dc48_r1, dc48_r2, dc48_r3, dc48, DL.dI, DL.dB, DL.dS, hH, DL.dI, DL.dB, DL.dS, toksD]
    exact hQ
  | cons t l =>
    simp -dsimp -implicitDefEqProofs (maxSteps := 1000000) (disch := first | omega | (simp only [List.length_append, List.length_cons, List.length_nil]; omega) | (intros; simp only [ne_eq, reduceCtorEq, not_false_eq_true] <;> fail)) only [DL.R, Nat.reduceEqDiff, ↓reduceIte, reduceCtorEq, Int.reduceToNat, Int.reduceLE, Int.reduceLT, Nat.reduceLeDiff, Nat.reduceAdd, Nat.reduceMul, Int.reduceBNe, Int.reduceBEq, Int.cast_ofNat_Int, decide_true, decide_false, ne_eq, eq_self, implies_true, dc48_r0, dc48_r1, dc48_r2, dc48_r3, dc48, DL.dI, DL.dB, DL.dS, hH, DL.dI, DL.dB, DL.dS, toksD]
    refine onB_i (fun c => by simp at c; omega) (fun c => ?_)
    simp -dsimp -implicitDefEqProofs (maxSteps := 1000000) (disch := first | omega | (simp only [List.length_append, List.length_cons, List.length_nil]; omega) | (intros; simp only [ne_eq, reduceCtorEq, not_false_eq_true] <;> fail)) only [DL.R, Nat.reduceEqDiff, ↓reduceIte, reduceCtorEq, Int.reduceToNat, Int.reduceLE, Int.reduceLT, Nat.reduceLeDiff, Nat.reduceAdd, Nat.reduceMul, Int.reduceBNe, Int.reduceBEq, Int.cast_ofNat_Int, decide_true, decide_false, ne_eq, eq_self, implies_true, dc48_r0, dc48_r1, dc48_r2, dc48_r3, dc48, DL.dI, DL.dB, DL.dS, hH, onIdx_zero, toksD, tokD, DL.dS, DL.dB]
    exact hQ
theorem take_spec (id : Nat) (e : TypeId) (l : List Tok) (bad right : Bool) (hH : H[id]? = some (.box e [.sl (toksD l), dB bad]))
    (hno : (bad || !right || nextT l == []) = true → Q (dS (str [])) (H.set id (.box e [.sl (toksD l), dB true])))
    (hyes : (bad || !right || nextT l == []) = false → Q (dS (str (nextT l))) (H.set id (.box e [.sl (toksD (l.drop 1)), dB bad]))) : CallA Tryd.prog G 47 [.ptr id 0, dB right] H Q := by
  refine s47 (Nat.le_of_ble_eq_true rfl) ?_
  have hlt : id < H.length := (List.getElem?_eq_some_iff.1 hH).1
  simp -dsimp -implicitDefEqProofs (maxSteps := 1000000) (disch := first | omega | (simp only [List.length_append, List.length_cons, List.length_nil]; omega) | (intros; simp only [ne_eq, reduceCtorEq, not_false_eq_true] <;> fail)) only [DL.R, Nat.reduceEqDiff, ↓reduceIte, reduceCtorEq, Int.reduceToNat, Int.reduceLE, Int.reduceLT, Nat.reduceLeDiff, Nat.reduceAdd, Nat.reduceMul, Int.reduceBNe, Int.reduceBEq, Int.cast_ofNat_Int, decide_true, decide_false, ne_eq, eq_self, implies_true, dc47_r0, dc47_r1, dc47_r2, dc47_r3, dc47_r4, dc47_r5, dc47_r6, dc47, DL.dI, DL.dB, DL.dS, DL.dI, DL.dB, DL.dS]
  refine next_spec id e l bad hH ?_
  cases bad with
  | true =>
    simp -dsimp -implicitDefEqProofs (maxSteps := 1000000) (disch := first | omega | (simp only [List.length_append, List.length_cons, List.length_nil]; omega) | (intros; simp only [ne_eq, reduceCtorEq, not_false_eq_true] <;> fail)) only [DL.R, Nat.reduceEqDiff, ↓reduceIte, reduceCtorEq, Int.reduceToNat, Int.reduceLE, Int.reduceLT, Nat.reduceLeDiff, Nat.reduceAdd, Nat.reduceMul, Int.reduceBNe, Int.reduceBEq, Int.cast_ofNat_Int, decide_true, decide_false, ne_eq, eq_self, implies_true, dc47_r0, dc47_r1, dc47_r2, dc47_r3, dc47_r4, dc47_r5, dc47_r6, dc47, DL.dI, DL.dB, DL.dS, hH, DL.dI, DL.dB, DL.dS]
    exact hno rfl
  | false =>
    cases right with
    | false =>
      simp -dsimp -implicitDefEqProofs (maxSteps := 1000000) (disch := first | omega | (simp only [List.length_append, List.length_cons, List.length_nil]; omega) | (intros; simp only [ne_eq, reduceCtorEq, not_false_eq_true] <;> fail)) only [DL.R, Nat.reduceEqDiff, ↓reduceIte, reduceCtorEq, Int.reduceToNat, Int.reduceLE, Int.reduceLT, Nat.reduceLeDiff, Nat.reduceAdd, Nat.reduceMul, Int.reduceBNe, Int.reduceBEq, Int.cast_ofNat_Int, decide_true, decide_false, ne_eq, eq_self, implies_true, dc47_r0, dc47_r1, dc47_r2, dc47_r3, dc47_r4, dc47_r5, dc47_r6, dc47, DL.dI, DL.dB, DL.dS, hH, DL.dI, DL.dB, DL.dS]
      exact hno rfl
    | true =>
      simp -dsimp -implicitDefEqProofs (maxSteps := 1000000) (disch := first | omega | (simp only [List.length_append, List.length_cons, List.length_nil]; omega) | (intros; simp only [ne_eq, reduceCtorEq, not_false_eq_true] <;> fail)) only [DL.R, Nat.reduceEqDiff, ↓reduceIte, reduceCtorEq, Int.reduceToNat, Int.reduceLE, Int.reduceLT, Nat.reduceLeDiff, Nat.reduceAdd, Nat.reduceMul, Int.reduceBNe, Int.reduceBEq, Int.cast_ofNat_Int, decide_true, decide_false, ne_eq, eq_self, implies_true, dc47_r0, dc47_r1, dc47_r2, dc47_r3, dc47_r4, dc47_r5, dc47_r6, dc47, DL.dI, DL.dB, DL.dS, hH, DL.dI, DL.dB, DL.dS]
      refine onB_i (fun c => ?_) (fun c => ?_)
      · simp -dsimp -implicitDefEqProofs (maxSteps := 1000000) (disch := first | omega | (simp only [List.length_append, List.length_cons, List.length_nil]; omega) | (intros; simp only [ne_eq, reduceCtorEq, not_false_eq_true] <;> fail)) only [DL.R, Nat.reduceEqDiff, ↓reduceIte, reduceCtorEq, Int.reduceToNat, Int.reduceLE, Int.reduceLT, Nat.reduceLeDiff, Nat.reduceAdd, Nat.reduceMul, Int.reduceBNe, Int.reduceBEq, Int.cast_ofNat_Int, decide_true, decide_false, ne_eq, eq_self, implies_true, dc47_r0, dc47_r1, dc47_r2, dc47_r3, dc47_r4, dc47_r5, dc47_r6, dc47, DL.dI, DL.dB, DL.dS, hH, DL.dI, DL.dB, DL.dS]
        exact hno (by simpa using c)
      · have hl : 1 ≤ l.length := by
          cases l with
          | nil => simp [nextT] at c
          | cons t l => simp
        have htk : (toksD l).length = l.length := by simp [toksD]
        have hdr : (toksD l).drop 1 = toksD (l.drop 1) := by simp [toksD]
        simp -dsimp -implicitDefEqProofs (maxSteps := 1000000) (disch := first | omega | (simp only [List.length_append, List.length_cons, List.length_nil]; omega) | (intros; simp only [ne_eq, reduceCtorEq, not_false_eq_true] <;> fail)) only [DL.R, Nat.reduceEqDiff, ↓reduceIte, reduceCtorEq, Int.reduceToNat, Int.reduceLE, Int.reduceLT, Nat.reduceLeDiff, Nat.reduceAdd, Nat.reduceMul, Int.reduceBNe, Int.reduceBEq, Int.cast_ofNat_Int, decide_true, decide_false, ne_eq, eq_self, implies_true, dc47_r0, dc47_r1, dc47_r2, dc47_r3, dc47_r4, dc47_r5, dc47_r6, dc47, DL.dI, DL.dB, DL.dS, hH, DL.dI, DL.dB, DL.dS, htk, hdr]
        refine ⟨by omega, fun y hy => ?_, hyes (by simpa using c)⟩
        obtain ⟨t, _, rfl⟩ := List.mem_map.1 hy
        rfl
end Go.Proofs.Tryd
set_option maxRecDepth 100000
set_option linter.unusedSimpArgs false
set_option linter.unusedVariables false
namespace Go.Proofs.Tryd
open Go Go.DL
variable {G : Nat → D} {H : List O} {Q : D → List O → Prop}
def numT (t : List UInt8) : Int := (Lib.atoi t).getD 0
def numOk (t : List UInt8) (least most : Int) : Bool := match Lib.atoi t with
  | some n => Lib.itoa n == t && decide (least ≤ n) && decide (n ≤ most)
  | none => false
theorem number_spec (id : Nat) (e : TypeId) (l : List Tok) (bad : Bool) (least most : Int) (hH : H[id]? = some (.box e [.sl (toksD l), dB bad])) (hlen : (nextT l).length ≤ 18) (hG : G 6 = .el [.nn] ∨ G 6 = .el [.lit .nilIface])
    (hno : (bad || !numOk (nextT l) least most || nextT l == []) = true → Q (dI (numT (nextT l))) (H.set id (.box e [.sl (toksD l), dB true])))
    (hyes : (bad || !numOk (nextT l) least most || nextT l == []) = false → Q (dI (numT (nextT l))) (H.set id (.box e [.sl (toksD (l.drop 1)), dB bad]))) : CallA Tryd.prog G 49 [.ptr id 0, dI least, dI most] H Q := by
  refine s49 (Nat.le_of_ble_eq_true rfl) ?_
  simp -dsimp -implicitDefEqProofs (maxSteps := 1000000) (disch := first | omega | (simp only [List.length_append, List.length_cons, List.length_nil]; omega) | (intros; simp only [ne_eq, reduceCtorEq, not_false_eq_true] <;> fail)) only [DL.R, Nat.reduceEqDiff, ↓reduceIte, reduceCtorEq, Int.reduceToNat, Int.reduceLE, Int.reduceLT, Nat.reduceLeDiff, Nat.reduceAdd, Nat.reduceMul, Int.reduceBNe, Int.reduceBEq, Int.cast_ofNat_Int, decide_true, decide_false, ne_eq, eq_self, implies_true, dc49_r0, dc49_r1, dc49_r2, dc49_r3, dc49, DL.dI, DL.dB, DL.dS, DL.dI, DL.dB, DL.dS]
  refine next_spec id e l bad hH ?_
  simp -dsimp -implicitDefEqProofs (maxSteps := 1000000) (disch := first | omega | (simp only [List.length_append, List.length_cons, List.length_nil]; omega) | (intros; simp only [ne_eq, reduceCtorEq, not_false_eq_true] <;> fail)) only [DL.R, Nat.reduceEqDiff, ↓reduceIte, reduceCtorEq, Int.reduceToNat, Int.reduceLE, Int.reduceLT, Nat.reduceLeDiff, Nat.reduceAdd, Nat.reduceMul, Int.reduceBNe, Int.reduceBEq, Int.cast_ofNat_Int, decide_true, decide_false, ne_eq, eq_self, implies_true, dc49_r0, dc49_r1, dc49_r2, dc49_r3, dc49, DL.dI, DL.dB, DL.dS, DL.dI, DL.dB, DL.dS]
  cases ha : Lib.atoi (nextT l) with
  | none =>
    have hok : numOk (nextT l) least most = false := by simp [numOk, ha]
    have hn : numT (nextT l) = 0 := by simp [numT, ha]
    rw [hok, hn] at hno hyes
    refine atoi_bad _ hlen ha hG ?_
    simp -dsimp -implicitDefEqProofs (maxSteps := 1000000) (disch := first | omega | (simp only [List.length_append, List.length_cons, List.length_nil]; omega) | (intros; simp only [ne_eq, reduceCtorEq, not_false_eq_true] <;> fail)) only [DL.R, Nat.reduceEqDiff, ↓reduceIte, reduceCtorEq, Int.reduceToNat, Int.reduceLE, Int.reduceLT, Nat.reduceLeDiff, Nat.reduceAdd, Nat.reduceMul, Int.reduceBNe, Int.reduceBEq, Int.cast_ofNat_Int, decide_true, decide_false, ne_eq, eq_self, implies_true, dc49_r0, dc49_r1, dc49_r2, dc49_r3, dc49, DL.dI, DL.dB, DL.dS, DL.dI, DL.dB, DL.dS]
    refine take_spec id e l bad false hH (fun q => ?_) (fun q => ?_)
    · simp -dsimp -implicitDefEqProofs (maxSteps := 1000000) (disch := first | omega | (simp only [List.length_append, List.length_cons, List.length_nil]; omega) | (intros; simp only [ne_eq, reduceCtorEq, not_false_eq_true] <;> fail)) only [DL.R, Nat.reduceEqDiff, ↓reduceIte, reduceCtorEq, Int.reduceToNat, Int.reduceLE, Int.reduceLT, Nat.reduceLeDiff, Nat.reduceAdd, Nat.reduceMul, Int.reduceBNe, Int.reduceBEq, Int.cast_ofNat_Int, decide_true, decide_false, ne_eq, eq_self, implies_true, dc49_r0, dc49_r1, dc49_r2, dc49_r3, dc49, DL.dI, DL.dB, DL.dS, DL.dI, DL.dB, DL.dS]
      exact hno q
    · simp -dsimp -implicitDefEqProofs (maxSteps := 1000000) (disch := first | omega | (simp only [List.length_append, List.length_cons, List.length_nil]; omega) | (intros; simp only [ne_eq, reduceCtorEq, not_false_eq_true] <;> fail)) only [DL.R, Nat.reduceEqDiff, ↓reduceIte, reduceCtorEq, Int.reduceToNat, Int.reduceLE, Int.reduceLT, Nat.reduceLeDiff, Nat.reduceAdd, Nat.reduceMul, Int.reduceBNe, Int.reduceBEq, Int.cast_ofNat_Int, decide_true, decide_false, ne_eq, eq_self, implies_true, dc49_r0, dc49_r1, dc49_r2, dc49_r3, dc49, DL.dI, DL.dB, DL.dS, DL.dI, DL.dB, DL.dS]
      exact hyes q
  | some n =>
    obtain ⟨b1, b2⟩ := Lib.atoi_bound ha hlen
    have hn : numT (nextT l) = n := by simp [numT, ha]
    have hok : numOk (nextT l) least most = (Lib.itoa n == nextT l && decide (least ≤ n) && decide (n ≤ most)) := by simp [numOk, ha]
    rw [hok, hn] at hno hyes
    refine atoi_ok _ hlen n ha ?_
    simp -dsimp -implicitDefEqProofs (maxSteps := 1000000) (disch := first | omega | (simp only [List.length_append, List.length_cons, List.length_nil]; omega) | (intros; simp only [ne_eq, reduceCtorEq, not_false_eq_true] <;> fail)) only [DL.R, Nat.reduceEqDiff, ↓reduceIte, reduceCtorEq, Int.reduceToNat, Int.reduceLE, Int.reduceLT, Nat.reduceLeDiff, Nat.reduceAdd, Nat.reduceMul, Int.reduceBNe, Int.reduceBEq, Int.cast_ofNat_Int, decide_true, decide_false, ne_eq, eq_self, implies_true, dc49_r0, dc49_r1, dc49_r2, dc49_r3, dc49, DL.dI, DL.dB, DL.dS, DL.dI, DL.dB, DL.dS]
    refine itoa_call n (by omega) (by omega) ?_
    simp -dsimp -implicitDefEqProofs (maxSteps := 1000000) (disch := first | omega | (simp only [List.length_append, List.length_cons, List.length_nil]; omega) | (intros; simp only [ne_eq, reduceCtorEq, not_false_eq_true] <;> fail)) only [DL.R, Nat.reduceEqDiff, ↓reduceIte, reduceCtorEq, Int.reduceToNat, Int.reduceLE, Int.reduceLT, Nat.reduceLeDiff, Nat.reduceAdd, Nat.reduceMul, Int.reduceBNe, Int.reduceBEq, Int.cast_ofNat_Int, decide_true, decide_false, ne_eq, eq_self, implies_true, dc49_r0, dc49_r1, dc49_r2, dc49_r3, dc49, DL.dI, DL.dB, DL.dS, DL.dI, DL.dB, DL.dS]
    refine next_spec id e l bad hH ?_
    simp -dsimp -implicitDefEqProofs (maxSteps := 1000000) (disch := first | omega | (simp only [List.length_append, List.length_cons, List.length_nil]; omega) | (intros; simp only [ne_eq, reduceCtorEq, not_false_eq_true] <;> fail)) only [DL.R, Nat.reduceEqDiff, ↓reduceIte, reduceCtorEq, Int.reduceToNat, Int.reduceLE, Int.reduceLT, Nat.reduceLeDiff, Nat.reduceAdd, Nat.reduceMul, Int.reduceBNe, Int.reduceBEq, Int.cast_ofNat_Int, decide_true, decide_false, ne_eq, eq_self, implies_true, dc49_r0, dc49_r1, dc49_r2, dc49_r3, dc49, DL.dI, DL.dB, DL.dS, DL.dI, DL.dB, DL.dS]
    refine onG_i (fun e1 => ?_) (fun e1 => ?_)
    · simp -dsimp -implicitDefEqProofs (maxSteps := 1000000) (disch := first | omega | (simp only [List.length_append, List.length_cons, List.length_nil]; omega) | (intros; simp only [ne_eq, reduceCtorEq, not_false_eq_true] <;> fail)) only [DL.R, Nat.reduceEqDiff, ↓reduceIte, reduceCtorEq, Int.reduceToNat, Int.reduceLE, Int.reduceLT, Nat.reduceLeDiff, Nat.reduceAdd, Nat.reduceMul, Int.reduceBNe, Int.reduceBEq, Int.cast_ofNat_Int, decide_true, decide_false, ne_eq, eq_self, implies_true, dc49_r0, dc49_r1, dc49_r2, dc49_r3, dc49, DL.dI, DL.dB, DL.dS, DL.dI, DL.dB, DL.dS]
      refine onG_i (fun e2 => ?_) (fun e2 => ?_)
      · simp -dsimp -implicitDefEqProofs (maxSteps := 1000000) (disch := first | omega | (simp only [List.length_append, List.length_cons, List.length_nil]; omega) | (intros; simp only [ne_eq, reduceCtorEq, not_false_eq_true] <;> fail)) only [DL.R, Nat.reduceEqDiff, ↓reduceIte, reduceCtorEq, Int.reduceToNat, Int.reduceLE, Int.reduceLT, Nat.reduceLeDiff, Nat.reduceAdd, Nat.reduceMul, Int.reduceBNe, Int.reduceBEq, Int.cast_ofNat_Int, decide_true, decide_false, ne_eq, eq_self, implies_true, dc49_r0, dc49_r1, dc49_r2, dc49_r3, dc49, DL.dI, DL.dB, DL.dS, DL.dI, DL.dB, DL.dS]
        have hd : (Lib.itoa n == nextT l && decide (least ≤ n) && decide (n ≤ most)) = decide (n ≤ most) := by
          have : decide (least ≤ n) = true := by simpa using e2
          rw [e1, this]; simp
        rw [hd] at hno hyes
        refine take_spec id e l bad (decide (n ≤ most)) hH (fun q => ?_) (fun q => ?_)
        · simp -dsimp -implicitDefEqProofs (maxSteps := 1000000) (disch := first | omega | (simp only [List.length_append, List.length_cons, List.length_nil]; omega) | (intros; simp only [ne_eq, reduceCtorEq, not_false_eq_true] <;> fail)) only [DL.R, Nat.reduceEqDiff, ↓reduceIte, reduceCtorEq, Int.reduceToNat, Int.reduceLE, Int.reduceLT, Nat.reduceLeDiff, Nat.reduceAdd, Nat.reduceMul, Int.reduceBNe, Int.reduceBEq, Int.cast_ofNat_Int, decide_true, decide_false, ne_eq, eq_self, implies_true, dc49_r0, dc49_r1, dc49_r2, dc49_r3, dc49, DL.dI, DL.dB, DL.dS, DL.dI, DL.dB, DL.dS]
          exact hno q
        · simp -dsimp -implicitDefEqProofs (maxSteps := 1000000) (disch := first | omega | (simp only [List.length_append, List.length_cons, List.length_nil]; omega) | (intros; simp only [ne_eq, reduceCtorEq, not_false_eq_true] <;> fail)) only [DL.R, Nat.reduceEqDiff, ↓reduceIte, reduceCtorEq, Int.reduceToNat, Int.reduceLE, Int.reduceLT, Nat.reduceLeDiff, Nat.reduceAdd, Nat.reduceMul, Int.reduceBNe, Int.reduceBEq, Int.cast_ofNat_Int, decide_true, decide_false, ne_eq, eq_self, implies_true, dc49_r0, dc49_r1, dc49_r2, dc49_r3, dc49, DL.dI, DL.dB, DL.dS, DL.dI, DL.dB, DL.dS]
          exact hyes q
      · simp -dsimp -implicitDefEqProofs (maxSteps := 1000000) (disch := first | omega | (simp only [List.length_append, List.length_cons, List.length_nil]; omega) | (intros; simp only [ne_eq, reduceCtorEq, not_false_eq_true] <;> fail)) only [DL.R, Nat.reduceEqDiff, ↓reduceIte, reduceCtorEq, Int.reduceToNat, Int.reduceLE, Int.reduceLT, Nat.reduceLeDiff, Nat.reduceAdd, Nat.reduceMul, Int.reduceBNe, Int.reduceBEq, Int.cast_ofNat_Int, decide_true, decide_false, ne_eq, eq_self, implies_true, dc49_r0, dc49_r1, dc49_r2, dc49_r3, dc49, DL.dI, DL.dB, DL.dS, DL.dI, DL.dB, DL.dS]
        have hd : (Lib.itoa n == nextT l && decide (least ≤ n) && decide (n ≤ most)) = false := by
          have : decide (least ≤ n) = false := by simpa using e2
          rw [this]; simp
        rw [hd] at hno hyes
        refine take_spec id e l bad false hH (fun q => ?_) (fun q => ?_)
        · simp -dsimp -implicitDefEqProofs (maxSteps := 1000000) (disch := first | omega | (simp only [List.length_append, List.length_cons, List.length_nil]; omega) | (intros; simp only [ne_eq, reduceCtorEq, not_false_eq_true] <;> fail)) only [DL.R, Nat.reduceEqDiff, ↓reduceIte, reduceCtorEq, Int.reduceToNat, Int.reduceLE, Int.reduceLT, Nat.reduceLeDiff, Nat.reduceAdd, Nat.reduceMul, Int.reduceBNe, Int.reduceBEq, Int.cast_ofNat_Int, decide_true, decide_false, ne_eq, eq_self, implies_true, dc49_r0, dc49_r1, dc49_r2, dc49_r3, dc49, DL.dI, DL.dB, DL.dS, DL.dI, DL.dB, DL.dS]
          exact hno q
        · simp -dsimp -implicitDefEqProofs (maxSteps := 1000000) (disch := first | omega | (simp only [List.length_append, List.length_cons, List.length_nil]; omega) | (intros; simp only [ne_eq, reduceCtorEq, not_false_eq_true] <;> fail)) only [DL.R, Nat.reduceEqDiff, ↓reduceIte, reduceCtorEq, Int.reduceToNat, Int.reduceLE, Int.reduceLT, Nat.reduceLeDiff, Nat.reduceAdd, Nat.reduceMul, Int.reduceBNe, Int.reduceBEq, Int.cast_ofNat_Int, decide_true, decide_false, ne_eq, eq_self, implies_true, dc49_r0, dc49_r1, dc49_r2, dc49_r3, dc49, DL.dI, DL.dB, DL.dS, DL.dI, DL.dB, DL.dS]
          exact hyes q
    · simp -dsimp -implicitDefEqProofs (maxSteps := 1000000) (disch := first | omega | (simp only [List.length_append, List.length_cons, List.length_nil]; omega) | (intros; simp only [ne_eq, reduceCtorEq, not_false_eq_true] <;> fail)) only [DL.R, Nat.reduceEqDiff, ↓reduceIte, reduceCtorEq, Int.reduceToNat, Int.reduceLE, Int.reduceLT, Nat.reduceLeDiff, Nat.reduceAdd, Nat.reduceMul, Int.reduceBNe, Int.reduceBEq, Int.cast_ofNat_Int, decide_true, decide_false, ne_eq, eq_self, implies_true, dc49_r0, dc49_r1, dc49_r2, dc49_r3, dc49, DL.dI, DL.dB, DL.dS, DL.dI, DL.dB, DL.dS]
      have hd : (Lib.itoa n == nextT l && decide (least ≤ n) && decide (n ≤ most)) = false := by
        have : (Lib.itoa n == nextT l) = false := by simpa using e1
        rw [this]; simp
      rw [hd] at hno hyes
      refine take_spec id e l bad false hH (fun q => ?_) (fun q => ?_)
      · simp -dsimp -implicitDefEqProofs (maxSteps := 1000000) (disch := first | omega | (simp only [List.length_append, List.length_cons, List.length_nil]; omega) | (intros; simp only [ne_eq, reduceCtorEq, not_false_eq_true] <;> fail)) only [DL.R, Nat.reduceEqDiff, ↓reduceIte, reduceCtorEq, Int.reduceToNat, Int.reduceLE, Int.reduceLT, Nat.reduceLeDiff, Nat.reduceAdd, Nat.reduceMul, Int.reduceBNe, Int.reduceBEq, Int.cast_ofNat_Int, decide_true, decide_false, ne_eq, eq_self, implies_true, dc49_r0, dc49_r1, dc49_r2, dc49_r3, dc49, DL.dI, DL.dB, DL.dS, DL.dI, DL.dB, DL.dS]
        exact hno q
      · simp -dsimp -implicitDefEqProofs (maxSteps := 1000000) (disch := first | omega | (simp only [List.length_append, List.length_cons, List.length_nil]; omega) | (intros; simp only [ne_eq, reduceCtorEq, not_false_eq_true] <;> fail)) only [DL.R, Nat.reduceEqDiff, ↓reduceIte, reduceCtorEq, Int.reduceToNat, Int.reduceLE, Int.reduceLT, Nat.reduceLeDiff, Nat.reduceAdd, Nat.reduceMul, Int.reduceBNe, Int.reduceBEq, Int.cast_ofNat_Int, decide_true, decide_false, ne_eq, eq_self, implies_true, dc49_r0, dc49_r1, dc49_r2, dc49_r3, dc49, DL.dI, DL.dB, DL.dS, DL.dI, DL.dB, DL.dS]
        exact hyes q
end Go.Proofs.Tryd
set_option maxRecDepth 100000
set_option linter.unusedSimpArgs false
set_option linter.unusedVariables false
namespace Go.Proofs.Tryd
open Go Go.DL
variable {G : Nat → D} {H : List O} {Q : D → List O → Prop}
def whatOf (ks : List (List UInt8)) (kind : Int) : List UInt8 := if kind < 0 ∨ kind ≥ 14 then [] else ks.getD kind.toNat []
theorem What_spec (ks : List (List UInt8)) (hks : ks.length = 14) (kind : Int) (rest : List D) (hG0 : G 0 = .el (strs ks)) (hQ : Q (dS (str (whatOf ks kind))) H) : CallA Tryd.prog G 35 [.agg (dI kind :: rest)] H Q := by
  refine CallA.drop (s35 (Nat.le_of_ble_eq_true rfl) ?_)
  simp -dsimp -implicitDefEqProofs (maxSteps := 1000000) (disch := first | omega | (simp only [List.length_append, List.length_cons, List.length_nil]; omega) | (intros; simp only [ne_eq, reduceCtorEq, not_false_eq_true] <;> fail)) only [DL.R, Nat.reduceEqDiff, ↓reduceIte, reduceCtorEq, Int.reduceToNat, Int.reduceLE, Int.reduceLT, Nat.reduceLeDiff, Nat.reduceAdd, Nat.reduceMul, Int.reduceBNe, Int.reduceBEq, Int.cast_ofNat_Int, decide_true, decide_false, ne_eq, eq_self, implies_true, dc35_r0, dc35_r1, dc35_r2, dc35_r3, dc35, DL.dI, DL.dB, DL.dS, DL.dI, DL.dB, DL.dS, DL.wh_agg]
  refine onG_i (fun e1 => ?_) (fun e1 => ?_)
  · have e1' : ¬ kind < 0 := by simpa using e1
    simp -dsimp -implicitDefEqProofs (maxSteps := 1000000) (disch := first | omega | (simp only [List.length_append, List.length_cons, List.length_nil]; omega) | (intros; simp only [ne_eq, reduceCtorEq, not_false_eq_true] <;> fail)) only [DL.R, Nat.reduceEqDiff, ↓reduceIte, reduceCtorEq, Int.reduceToNat, Int.reduceLE, Int.reduceLT, Nat.reduceLeDiff, Nat.reduceAdd, Nat.reduceMul, Int.reduceBNe, Int.reduceBEq, Int.cast_ofNat_Int, decide_true, decide_false, ne_eq, eq_self, implies_true, dc35_r0, dc35_r1, dc35_r2, dc35_r3, dc35, DL.dI, DL.dB, DL.dS]
    refine onB_i (fun e2 => ?_) (fun e2 => ?_)
    · have e2' : kind ≥ 14 := by simpa using e2
      simp -dsimp -implicitDefEqProofs (maxSteps := 1000000) (disch := first | omega | (simp only [List.length_append, List.length_cons, List.length_nil]; omega) | (intros; simp only [ne_eq, reduceCtorEq, not_false_eq_true] <;> fail)) only [DL.R, Nat.reduceEqDiff, ↓reduceIte, reduceCtorEq, Int.reduceToNat, Int.reduceLE, Int.reduceLT, Nat.reduceLeDiff, Nat.reduceAdd, Nat.reduceMul, Int.reduceBNe, Int.reduceBEq, Int.cast_ofNat_Int, decide_true, decide_false, ne_eq, eq_self, implies_true, dc35_r0, dc35_r1, dc35_r2, dc35_r3, dc35, DL.dI, DL.dB, DL.dS]
      have : whatOf ks kind = [] := by simp [whatOf, e2']
      rw [this] at hQ
      exact ⟨_, rfl, .lit _, hQ⟩
    · have e2' : ¬ kind ≥ 14 := by simpa using e2
      simp -dsimp -implicitDefEqProofs (maxSteps := 1000000) (disch := first | omega | (simp only [List.length_append, List.length_cons, List.length_nil]; omega) | (intros; simp only [ne_eq, reduceCtorEq, not_false_eq_true] <;> fail)) only [DL.R, Nat.reduceEqDiff, ↓reduceIte, reduceCtorEq, Int.reduceToNat, Int.reduceLE, Int.reduceLT, Nat.reduceLeDiff, Nat.reduceAdd, Nat.reduceMul, Int.reduceBNe, Int.reduceBEq, Int.cast_ofNat_Int, decide_true, decide_false, ne_eq, eq_self, implies_true, dc35_r0, dc35_r1, dc35_r2, dc35_r3, dc35, DL.dI, DL.dB, DL.dS, hG0]
      have hk : kind.toNat < ks.length := by omega
      have hd : List.drop kind.toNat (strs ks) = dS (str (ks[kind.toNat]'hk)) :: List.drop (kind.toNat + 1) (strs ks) := by
        rw [List.drop_eq_getElem_cons (by rw [strs_len]; exact hk)]; simp [strs]
      simp -dsimp -implicitDefEqProofs (maxSteps := 1000000) (disch := first | omega | (simp only [List.length_append, List.length_cons, List.length_nil]; omega) | (intros; simp only [ne_eq, reduceCtorEq, not_false_eq_true] <;> fail)) only [DL.R, Nat.reduceEqDiff, ↓reduceIte, reduceCtorEq, Int.reduceToNat, Int.reduceLE, Int.reduceLT, Nat.reduceLeDiff, Nat.reduceAdd, Nat.reduceMul, Int.reduceBNe, Int.reduceBEq, Int.cast_ofNat_Int, decide_true, decide_false, ne_eq, eq_self, implies_true, dc35_r0, dc35_r1, dc35_r2, dc35_r3, dc35, DL.dI, DL.dB, DL.dS, Nat.mul_one, hd, DL.dS]
      have : whatOf ks kind = ks[kind.toNat]'hk := by
        unfold whatOf; rw [if_neg (by omega)]; simp [List.getD_eq_getElem?_getD, hk]
      rw [this] at hQ
      refine ⟨by omega, by omega, _, rfl, .lit _, hQ⟩
  · have e1' : kind < 0 := by simpa using e1
    simp -dsimp -implicitDefEqProofs (maxSteps := 1000000) (disch := first | omega | (simp only [List.length_append, List.length_cons, List.length_nil]; omega) | (intros; simp only [ne_eq, reduceCtorEq, not_false_eq_true] <;> fail)) only [DL.R, Nat.reduceEqDiff, ↓reduceIte, reduceCtorEq, Int.reduceToNat, Int.reduceLE, Int.reduceLT, Nat.reduceLeDiff, Nat.reduceAdd, Nat.reduceMul, Int.reduceBNe, Int.reduceBEq, Int.cast_ofNat_Int, decide_true, decide_false, ne_eq, eq_self, implies_true, dc35_r0, dc35_r1, dc35_r2, dc35_r3, dc35, DL.dI, DL.dB, DL.dS]
    have : whatOf ks kind = [] := by simp [whatOf, e1']
    rw [this] at hQ
    exact ⟨_, rfl, .lit _, hQ⟩
end Go.Proofs.Tryd
set_option maxRecDepth 100000
set_option linter.unusedSimpArgs false
set_option linter.unusedVariables false
set_option maxRecDepth 100000
set_option linter.unusedSimpArgs false
set_option linter.unusedVariables false
namespace Go.Proofs.Tryd
open Go Go.DL
variable {G : Nat → D} {H : List O} {Q : D → List O → Prop}
def kwL : List (List UInt8) := [[109, 111, 100, 117, 108, 101], [117, 115, 101], [114, 101, 99], [99, 97, 115, 101], [102, 117, 110], [111, 110], [116, 101, 115, 116], [99, 111, 110, 118], [116, 114, 117, 101], [102, 97, 108, 115, 101], [110, 111, 116], [97, 110, 100], [111, 114], [105, 102], [116, 104, 101, 110], [101, 108, 115, 101], [108, 101, 116], [105, 110], [109, 97, 116, 99, 104], [102, 111, 108, 100], [111, 118, 101, 114], [100, 111], [108, 101, 110], [106, 111, 105, 110], [76, 105, 115, 116], [73, 110, 116], [66, 111, 111, 108]]
def whatsL : List (List UInt8) := [[110, 97, 109, 101], [109, 111, 118, 101], [116, 121, 112, 101], [98, 111, 100, 121], [108, 97, 121, 111, 117, 116], [109, 97, 107, 101], [97, 110, 121]]
theorem whats_spec (hQ : Q (.sl (strs whatsL)) H) : CallA Tryd.prog G 27 [] H Q := by
  refine s27 (Nat.le_of_ble_eq_true rfl) ?_
  simp -dsimp -implicitDefEqProofs (maxSteps := 1000000) (disch := first | omega | (simp only [List.length_append, List.length_cons, List.length_nil]; omega) | (intros; simp only [ne_eq, reduceCtorEq, not_false_eq_true] <;> fail)) only [DL.R, Nat.reduceEqDiff, ↓reduceIte, reduceCtorEq, Int.reduceToNat, Int.reduceLE, Int.reduceLT, Nat.reduceLeDiff, Nat.reduceAdd, Nat.reduceMul, Int.reduceBNe, Int.reduceBEq, Int.cast_ofNat_Int, decide_true, decide_false, ne_eq, eq_self, implies_true, dc27_r0, dc27_r1, dc27, DL.dI, DL.dB, DL.dS]
  exact hQ
def numberF : List UInt8 → Int
  | [b] => if isDigit b then (b.toNat : Int) - 48 else -1
  | _ => -1
end Go.Proofs.Tryd
set_option maxRecDepth 100000
set_option linter.unusedSimpArgs false
set_option linter.unusedVariables false
set_option maxRecDepth 100000
set_option linter.unusedSimpArgs false
set_option linter.unusedVariables false
set_option linter.unusedVariables false
set_option linter.unusedSimpArgs false
namespace Go.DL
open Go
theorem below_lit (n : Nat) (v : Value) : Below n (.lit v) ↔ True := ⟨fun _ => trivial, fun _ => .lit v⟩
theorem below_agg (n : Nat) (xs : List D) : Below n (.agg xs) ↔ ∀ x ∈ xs, Below n x := by
  constructor
  · intro h x hx
    cases h with
    | agg _ h => obtain ⟨i, hi, rfl⟩ := List.getElem_of_mem hx; exact h i hi
  · intro h; exact .agg xs fun i hi => h _ (List.getElem_mem hi)
theorem below_tup (n : Nat) (xs : List D) : Below n (.tup xs) ↔ ∀ x ∈ xs, Below n x := by
  constructor
  · intro h x hx
    cases h with
    | tup _ h => obtain ⟨i, hi, rfl⟩ := List.getElem_of_mem hx; exact h i hi
  · intro h; exact .tup xs fun i hi => h _ (List.getElem_mem hi)
theorem below_sl (n : Nat) (xs : List D) : Below n (.sl xs) ↔ ∀ x ∈ xs, ∀ y ∈ x.leaves, Below n y := by
  constructor
  · intro h x hx y hy
    cases h with
    | sl _ h => obtain ⟨i, hi, rfl⟩ := List.getElem_of_mem hx; obtain ⟨j, hj, rfl⟩ := List.getElem_of_mem hy; exact h i hi j hj
  · intro h; exact .sl xs fun i hi j hj => h _ (List.getElem_mem hi) _ (List.getElem_mem hj)
theorem Deep.nil (H : List O) : Deep H (.lit (.slice none 0 0)) (.sl []) := by
  intro F c w v hr hv
  cases hv
  exact .sl [] none ⟨0, 0, none⟩ 0 1 (fun _ _ => undef) (Nat.le_refl _) (fun hp => by simp at hp) (fun j hj => by simp at hj) (fun j hj => by simp at hj) (fun j hj => by simp at hj) (fun j hj => by simp at hj)
theorem Deep.tup2 {H : List O} {a b a' b' : D} (h1 : Deep H a a') (h2 : Deep H b b') : Deep H (.tup [a, b]) (.tup [a', b']) :=
  Deep.tup rfl fun i q => by
    match i, q with
    | 0, _ => exact h1
    | 1, _ => exact h2
theorem Deep.tup3 {H : List O} {a b c a' b' c' : D} (h1 : Deep H a a') (h2 : Deep H b b') (h3 : Deep H c c') : Deep H (.tup [a, b, c]) (.tup [a', b', c']) :=
  Deep.tup rfl fun i q => by
    match i, q with
    | 0, _ => exact h1
    | 1, _ => exact h2
    | 2, _ => exact h3
theorem frz_own (H Gs : List O) (id : Nat) {x : Bool} {ver : Nat} {e : TypeId} {s : Nat} {xs : List D} (h : Gs[id]? = some (.row x ver e s xs)) : (H ++ frzAll Gs)[H.length + id]? = some (.row false ver e s xs) := by
  rw [get_own]; simp [frzAll, h]
theorem Deep.own {H Gs : List O} {id ver : Nat} {x : Bool} {e : TypeId} {s : Nat} {xs : List D} (h : Gs[id]? = some (.row x ver e s xs)) : Deep (H ++ frzAll Gs) (.row (H.length + id) ver) (.sl xs) := Deep.row (frz_own H Gs id h)
theorem Deep.own0 {H Gs : List O} {ver : Nat} {x : Bool} {e : TypeId} {s : Nat} {xs : List D} (h : Gs[0]? = some (.row x ver e s xs)) : Deep (H ++ frzAll Gs) (.row H.length ver) (.sl xs) := Deep.own (id := 0) h
end Go.DL
set_option maxRecDepth 100000
set_option linter.unusedSimpArgs false
set_option linter.unusedVariables false
namespace Go.Proofs.Tryd
open Go Go.DL
variable {G : Nat → D} {H : List O} {Q : D → List O → Prop}
def scanN : Nat → List UInt8 → Nat → List Tok → List Tok × List UInt8 × Int
  | 0, _, p, _ => ([], [], (p : Int))
  | n + 1, r, p, acc =>
    if r.drop (bl false r) = [] then (acc, r.take (bl false r), -1)
    else if tok (r.drop (bl false r)) = 0 then ([], [], ((p + bl false r : Nat) : Int))
    else scanN n ((r.drop (bl false r)).drop (tok (r.drop (bl false r)))) (p + bl false r + tok (r.drop (bl false r))) (acc ++ [⟨(r.drop (bl false r)).take (tok (r.drop (bl false r))), r.take (bl false r)⟩])
def scan (l : List UInt8) : List Tok × List UInt8 × Int := if l.length > 8192 then ([], [], 8192) else scanN (l.length + 1) l 0 []
def scanD (x : List Tok × List UInt8 × Int) : D := .tup [.sl (toksD x.1), dS (str x.2.1), dI x.2.2]
theorem below_scan (n : Nat) (x : List Tok × List UInt8 × Int) : Below n (scanD x) := by
  simp [scanD, below_tup, below_sl, below_lit, toksD, tokD, D.leaves]
theorem tok_le (b : UInt8) (r : List UInt8) : tok (b :: r) ≤ (b :: r).length := by
  have h1 : ∀ p : UInt8 → Bool, (r.takeWhile p).length ≤ r.length := fun p => (List.takeWhile_sublist p).length_le
  have h2 : ∀ n, short n ≤ n := fun n => by unfold short; split <;> omega
  simp only [tok]
  split
  · have := h1 isEither; have := h2 (1 + (r.takeWhile isEither).length); simp; omega
  · split
    · have := h1 isDigit; have := h2 (1 + (r.takeWhile isDigit).length); simp; omega
    · cases h : signsL.find? fun x => Lib.hasPrefix (b :: r) x with
      | none => simp
      | some x =>
        have := List.find?_some h
        simp only [Lib.hasPrefix] at this
        have := (List.isPrefixOf_iff_prefix.1 this).length_le
        simpa using this
theorem toksD_snoc (a : List Tok) (t : Tok) : toksD (a ++ [t]) = toksD a ++ [tokD t] := by simp [toksD]
theorem acc_len {n : Nat} {a : List Tok} {p : Nat} (h : a.length ≤ p) (hp : p ≤ 8192) : (toksD a).length ≤ 8192 := by simp [toksD]; omega
end Go.Proofs.Tryd
