/- Part of a proof: see the last text. -/
import Derived.Shelf.Strings.Builder1
import Derived.Shelf.Strings.Builder2
import Derived.Shelf.Strings.OnBuilder
import Derived.Shelf.Strings.Trim
import Derived.Shelf.Small.Utf8
import Derived.Shelf.Small.Bits
import Derived.Shelf.Small.Strs
import Derived.Shelf.Strings.BuilderF
import Derived.Shelf.Strings.BuilderK
import Derived.Shelf.Strings.BuilderRune
import Derived.Shelf.Utf8.RuneCount
import Derived.Shelf.Strings.Builder2Cap
import Derived.Shelf.Strconv.Atoi
import Derived.Shelf.Strconv.Itoa0
import Derived.Shelf.Strconv.Itoa1
import Derived.Shelf.LaysM
import Derived.Shelf.Strconv.Itoa2
import Derived.Shelf.Strconv.Itoa3
import Derived.Shelf.Strconv.Itoa4
import Derived.Shelf.Strconv.AtoiErrFast
import Derived.Shelf.Strconv.ParseIntEmpty
import Derived.Shelf.Strconv.AtoiFail
import Derived.Shelf.Strconv.Clone
import Derived.Shelf.Strconv.SyntaxError
import Derived.Shelf.LaysC
import Derived.Shelf.Strconv.ToError
import Derived.Shelf.Strconv.AtoiErr
import Derived.Shelf.Strconv.ErrVar
import Derived.Shelf.Strconv.Lower
import Derived.Shelf.Strconv.ParseUint10
import Derived.Shelf.Strconv.ParseUint10Empty
import Derived.Shelf.Strconv.ParseUint10Any
import Derived.Shelf.Strconv.ParseInt10
import Derived.Shelf.Strconv.AtoiLong
import Derived.Shelf.Strconv.AtoiInnerAll
import Derived.Shelf.Strconv.RangeError
import Derived.Shelf.Strconv.ToErrorRange
import Derived.Shelf.Strconv.AtoiAll
import Derived.Shelf.Strconv.ParseUintEmpty
import Derived.Shelf.Strconv.ParseUint10b64
import Derived.Shelf.Strconv.ParseUint10b32
import Derived.Shelf.Strconv.ParseUint10b16
import Derived.Shelf.Strconv.ParseUint10b8
import Derived.Shelf.Strconv.ParseUint10At
import Derived.Shelf.Strconv.ParseInt10At64
import Derived.Shelf.Strconv.ParseInt10At32
import Derived.Shelf.Strconv.ParseInt10At16
import Derived.Shelf.Strconv.ParseInt10At8
import Derived.Shelf.Strconv.ParseInt10All
import Derived.Shelf.Strconv.ParseIntPublic10
import Derived.Shelf.Strings.Search1
import Derived.Shelf.Strings.Search2
import Derived.Shelf.Strings.Search3
import Derived.Shelf.Strings.Cut
import Derived.Shelf.Strings.Count
import Derived.Shelf.Strings.Shaped
import Derived.Shelf.Sort.Plain
import Derived.Shelf.Strings.Prefix
import Derived.Shelf.Strings.Split
import Derived.Shelf.Strings.Replace
import Derived.Shelf.Strings.SplitShaped
import Derived.Shelf.Unicode.Latin
import Derived.Shelf.Unicode.Decode
import Derived.Shelf.Strings.Runes
import Derived.Shelf.Strings.RuneCount
import Derived.Shelf.Strings.AsciiSet
import Derived.Shelf.Bits.Mul64
import Derived.Shelf.Strings.Repeat
import Derived.Shelf.Unicode.DecodeSlow
import Derived.Shelf.Unicode.DecodeAny
import Derived.Shelf.Unicode.DecodeLast
import Derived.Shelf.Unicode.CaseLookup
import Derived.Shelf.Unicode.CaseConvert
import Derived.Shelf.Unicode.CaseTo
import Derived.Shelf.Unicode.CaseLaid
import Derived.Shelf.Strings.MapAny
import Derived.Shelf.Strings.CaseAny
import Derived.Shelf.Strings.BuilderCap
import Derived.Test.YtelhdhofnohkcaaGreatDoorProg
import Derived.Test.YtelhdhofnohkcaaGreatDoorG05
import Derived.Sort.Grow
import Derived.Lib.ConvBytes
import Derived.Shelf.Strings.SlTrimAscii
set_option linter.unusedVariables false
set_option linter.unusedSimpArgs false
namespace Go.Proofs
open Go.Shelf
def Tryz.lays170_ren : Go.Shelf.Ren := ⟨fun | 170 => 50 | n => n, fun | 70 => 67 | 3 => 3 | 0 => 0 | 72 => 70 | 37 => 68 | 5 => 5 | n => n, fun | n => n⟩
theorem Tryz.lays170 : Go.Proofs.Lays.n170 Tryz.prog Tryz.lays170_ren := {
 mixed := by kernel_rfl
 f170 := Tryz.func50.trans (congrArg some (by kernel_rfl))
 t0 := Tryz.underlying0
 a0 := Tryz.isAgg0
 z0 := Tryz.sizeOf0
 v0 := Tryz.zeroValue0
 t3 := Tryz.underlying3
 a3 := Tryz.isAgg3
 z3 := Tryz.sizeOf3
 v3 := Tryz.zeroValue3
 t37 := Tryz.underlying68
 a37 := Tryz.isAgg68
 z37 := Tryz.sizeOf68
 v37 := Tryz.zeroValue68
 t70 := Tryz.underlying67
 a70 := Tryz.isAgg67
 z70 := Tryz.sizeOf67
 v70 := Tryz.zeroValue67
 t72 := Tryz.underlying70
 a72 := Tryz.isAgg70
 z72 := Tryz.sizeOf70
 v72 := Tryz.zeroValue70 }
def Tryz.lays169_ren : Go.Shelf.Ren := ⟨fun | 169 => 39 | n => n, fun | 70 => 67 | 9 => 9 | 0 => 0 | 72 => 70 | 37 => 68 | 127 => 115 | 3 => 3 | 5 => 5 | n => n, fun | n => n⟩
theorem Tryz.lays169 : Go.Proofs.Lays.n169 Tryz.prog Tryz.lays169_ren := {
 mixed := by kernel_rfl
 f169 := Tryz.func39.trans (congrArg some (by kernel_rfl))
 t0 := Tryz.underlying0
 a0 := Tryz.isAgg0
 z0 := Tryz.sizeOf0
 v0 := Tryz.zeroValue0
 t3 := Tryz.underlying3
 a3 := Tryz.isAgg3
 z3 := Tryz.sizeOf3
 v3 := Tryz.zeroValue3
 t9 := Tryz.underlying9
 a9 := Tryz.isAgg9
 z9 := Tryz.sizeOf9
 v9 := Tryz.zeroValue9
 t37 := Tryz.underlying68
 a37 := Tryz.isAgg68
 z37 := Tryz.sizeOf68
 v37 := Tryz.zeroValue68
 t70 := Tryz.underlying67
 a70 := Tryz.isAgg67
 z70 := Tryz.sizeOf67
 v70 := Tryz.zeroValue67
 t72 := Tryz.underlying70
 a72 := Tryz.isAgg70
 z72 := Tryz.sizeOf70
 v72 := Tryz.zeroValue70
 t127 := Tryz.underlying115
 a127 := Tryz.isAgg115
 z127 := Tryz.sizeOf115
 v127 := Tryz.zeroValue115 }
theorem Tryz.Builder_Extra_169 : Builder.Extra Tryz.prog Tryz.lays169_ren := {
 sizeBuilder := by kernel_rfl
 liesBuilder := by kernel_rfl
 t5 := Tryz.underlying5
 a5 := Tryz.isAgg5
 z5 := Tryz.sizeOf5
 v5 := Tryz.zeroValue5
 infoByte := by kernel_rfl
 cellsByte := by kernel_rfl
 sizeByte := by kernel_rfl
 neB5 := by decide }
def Tryz.lays158_ren : Go.Shelf.Ren := ⟨fun | 158 => 120 | 165 => 61 | 166 => 37 | 167 => 158 | 169 => 39 | 230 => 159 | 203 => 160 | 240 => 58 | 241 => 95 | 197 => 82 | 118 => 184 | 168 => 185 | 270 => 186 | 262 => 187 | 276 => 91 | 277 => 130 | 260 => 124 | 242 => 199 | 313 => 200 | 278 => 211 | 274 => 212 | 275 => 213 | n => n, fun | 9 => 9 | 4 => 4 | 3 => 3 | 5 => 5 | 72 => 70 | 0 => 0 | 76 => 71 | 75 => 44 | 107 => 228 | 70 => 67 | 20 => 20 | 37 => 68 | 127 => 115 | 21 => 21 | 105 => 140 | 164 => 151 | 162 => 284 | 203 => 282 | 119 => 229 | 46 => 39 | 139 => 232 | 138 => 231 | 51 => 153 | 160 => 295 | 208 => 304 | 206 => 302 | 80 => 74 | n => n, fun | 13 => 8 | 3 => 4 | 4 => 5 | n => n⟩
theorem Tryz.lays158 : Go.Proofs.Lays.n158 Tryz.prog Tryz.lays158_ren := {
 mixed := by kernel_rfl
 f118 := Tryz.func184.trans (congrArg some (by kernel_rfl))
 f158 := Tryz.func120.trans (congrArg some (by kernel_rfl))
 f165 := Tryz.func61.trans (congrArg some (by kernel_rfl))
 f166 := Tryz.func37.trans (congrArg some (by kernel_rfl))
 f167 := Tryz.func158.trans (congrArg some (by kernel_rfl))
 f168 := Tryz.func185.trans (congrArg some (by kernel_rfl))
 f169 := Tryz.func39.trans (congrArg some (by kernel_rfl))
 f197 := Tryz.func82.trans (congrArg some (by kernel_rfl))
 f203 := Tryz.func160.trans (congrArg some (by kernel_rfl))
 f230 := Tryz.func159.trans (congrArg some (by kernel_rfl))
 f240 := Tryz.func58.trans (congrArg some (by kernel_rfl))
 f241 := Tryz.func95.trans (congrArg some (by kernel_rfl))
 f242 := Tryz.func199.trans (congrArg some (by kernel_rfl))
 f260 := Tryz.func124.trans (congrArg some (by kernel_rfl))
 f262 := Tryz.func187.trans (congrArg some (by kernel_rfl))
 f270 := Tryz.func186.trans (congrArg some (by kernel_rfl))
 f274 := Tryz.func212.trans (congrArg some (by kernel_rfl))
 f275 := Tryz.func213.trans (congrArg some (by kernel_rfl))
 f276 := Tryz.func91.trans (congrArg some (by kernel_rfl))
 f277 := Tryz.func130.trans (congrArg some (by kernel_rfl))
 f278 := Tryz.func211.trans (congrArg some (by kernel_rfl))
 f313 := Tryz.func200.trans (congrArg some (by kernel_rfl))
 t0 := Tryz.underlying0
 a0 := Tryz.isAgg0
 z0 := Tryz.sizeOf0
 v0 := Tryz.zeroValue0
 t3 := Tryz.underlying3
 a3 := Tryz.isAgg3
 z3 := Tryz.sizeOf3
 v3 := Tryz.zeroValue3
 t4 := Tryz.underlying4
 a4 := Tryz.isAgg4
 z4 := Tryz.sizeOf4
 v4 := Tryz.zeroValue4
 t5 := Tryz.underlying5
 a5 := Tryz.isAgg5
 z5 := Tryz.sizeOf5
 v5 := Tryz.zeroValue5
 t9 := Tryz.underlying9
 a9 := Tryz.isAgg9
 z9 := Tryz.sizeOf9
 v9 := Tryz.zeroValue9
 t20 := Tryz.underlying20
 a20 := Tryz.isAgg20
 z20 := Tryz.sizeOf20
 v20 := Tryz.zeroValue20
 t21 := Tryz.underlying21
 a21 := Tryz.isAgg21
 z21 := Tryz.sizeOf21
 v21 := Tryz.zeroValue21
 t37 := Tryz.underlying68
 a37 := Tryz.isAgg68
 z37 := Tryz.sizeOf68
 v37 := Tryz.zeroValue68
 t46 := Tryz.underlying39
 a46 := Tryz.isAgg39
 z46 := Tryz.sizeOf39
 v46 := Tryz.zeroValue39
 t51 := Tryz.underlying153
 a51 := Tryz.isAgg153
 z51 := Tryz.sizeOf153
 v51 := Tryz.zeroValue153
 t70 := Tryz.underlying67
 a70 := Tryz.isAgg67
 z70 := Tryz.sizeOf67
 v70 := Tryz.zeroValue67
 t72 := Tryz.underlying70
 a72 := Tryz.isAgg70
 z72 := Tryz.sizeOf70
 v72 := Tryz.zeroValue70
 t75 := Tryz.underlying44
 a75 := Tryz.isAgg44
 z75 := Tryz.sizeOf44
 v75 := Tryz.zeroValue44
 t76 := Tryz.underlying71
 a76 := Tryz.isAgg71
 z76 := Tryz.sizeOf71
 v76 := Tryz.zeroValue71
 t105 := Tryz.underlying140
 a105 := Tryz.isAgg140
 z105 := Tryz.sizeOf140
 v105 := Tryz.zeroValue140
 t107 := Tryz.underlying228
 a107 := Tryz.isAgg228
 z107 := Tryz.sizeOf228
 v107 := Tryz.zeroValue228
 t119 := Tryz.underlying229
 a119 := Tryz.isAgg229
 z119 := Tryz.sizeOf229
 t127 := Tryz.underlying115
 a127 := Tryz.isAgg115
 z127 := Tryz.sizeOf115
 v127 := Tryz.zeroValue115
 t138 := Tryz.underlying231
 a138 := Tryz.isAgg231
 z138 := Tryz.sizeOf231
 v138 := Tryz.zeroValue231
 t139 := Tryz.underlying232
 a139 := Tryz.isAgg232
 z139 := Tryz.sizeOf232
 v139 := Tryz.zeroValue232
 t160 := Tryz.underlying295
 a160 := Tryz.isAgg295
 z160 := Tryz.sizeOf295
 v160 := Tryz.zeroValue295
 t162 := Tryz.underlying284
 a162 := Tryz.isAgg284
 z162 := Tryz.sizeOf284
 v162 := Tryz.zeroValue284
 t164 := Tryz.underlying151
 a164 := Tryz.isAgg151
 z164 := Tryz.sizeOf151
 v164 := Tryz.zeroValue151
 t203 := Tryz.underlying282
 a203 := Tryz.isAgg282
 z203 := Tryz.sizeOf282
 v203 := Tryz.zeroValue282
 t206 := Tryz.underlying302
 a206 := Tryz.isAgg302
 z206 := Tryz.sizeOf302
 v206 := Tryz.zeroValue302
 t208 := Tryz.underlying304
 a208 := Tryz.isAgg304
 z208 := Tryz.sizeOf304
 v208 := Tryz.zeroValue304
 g3 := by kernel_rfl
 g4 := by kernel_rfl
 g13 := by kernel_rfl }
theorem Tryz.Builder_Extra_158 : Builder.Extra Tryz.prog Tryz.lays158_ren := {
 sizeBuilder := by kernel_rfl
 liesBuilder := by kernel_rfl
 t5 := Tryz.underlying5
 a5 := Tryz.isAgg5
 z5 := Tryz.sizeOf5
 v5 := Tryz.zeroValue5
 infoByte := by kernel_rfl
 cellsByte := by kernel_rfl
 sizeByte := by kernel_rfl
 neB5 := by decide }
open Go.RowKit in
theorem Tryz.strings_ToUpper_ascii (s : ByteArray) (w : World) (hs : s.size ≤ 140737488355328) (hascii : ∀ (j : Nat) (b : UInt8), s.data.toList[j]? = some b → b.toNat < 128) :
  Calls Tryz.prog 120 #[.string s] w fun e w' => e = .returned (.string ⟨(Lib.toUpperA s.data.toList).toArray⟩) ∧ Below w.heap.size w w' := Any.strings_ToUpper_ascii Tryz.lays158 Tryz.Builder_Extra_158 s w hs hascii
def Tryz.lays160_ren : Go.Shelf.Ren := ⟨fun | 160 => 117 | 232 => 151 | 231 => 150 | 227 => 152 | 234 => 154 | 233 => 153 | 236 => 156 | 235 => 155 | 228 => 181 | 271 => 183 | 151 => 182 | 197 => 82 | 120 => 198 | 152 => 197 | 260 => 124 | 137 => 62 | 119 => 210 | 224 => 162 | 225 => 161 | 217 => 96 | 266 => 131 | n => n, fun | 9 => 9 | 4 => 4 | 3 => 3 | 5 => 5 | 117 => 222 | 116 => 221 | 0 => 0 | 124 => 225 | 21 => 21 | 105 => 140 | 46 => 39 | 119 => 229 | 139 => 232 | 138 => 231 | n => n, fun | 3 => 4 | 4 => 5 | n => n⟩
theorem Tryz.lays160 : Go.Proofs.Lays.n160 Tryz.prog Tryz.lays160_ren := {
 mixed := by kernel_rfl
 f119 := Tryz.func210.trans (congrArg some (by kernel_rfl))
 f120 := Tryz.func198.trans (congrArg some (by kernel_rfl))
 f137 := Tryz.func62.trans (congrArg some (by kernel_rfl))
 f151 := Tryz.func182.trans (congrArg some (by kernel_rfl))
 f152 := Tryz.func197.trans (congrArg some (by kernel_rfl))
 f160 := Tryz.func117.trans (congrArg some (by kernel_rfl))
 f197 := Tryz.func82.trans (congrArg some (by kernel_rfl))
 f217 := Tryz.func96.trans (congrArg some (by kernel_rfl))
 f224 := Tryz.func162.trans (congrArg some (by kernel_rfl))
 f225 := Tryz.func161.trans (congrArg some (by kernel_rfl))
 f227 := Tryz.func152.trans (congrArg some (by kernel_rfl))
 f228 := Tryz.func181.trans (congrArg some (by kernel_rfl))
 f231 := Tryz.func150.trans (congrArg some (by kernel_rfl))
 f232 := Tryz.func151.trans (congrArg some (by kernel_rfl))
 f233 := Tryz.func153.trans (congrArg some (by kernel_rfl))
 f234 := Tryz.func154.trans (congrArg some (by kernel_rfl))
 f235 := Tryz.func155.trans (congrArg some (by kernel_rfl))
 f236 := Tryz.func156.trans (congrArg some (by kernel_rfl))
 f260 := Tryz.func124.trans (congrArg some (by kernel_rfl))
 f266 := Tryz.func131.trans (congrArg some (by kernel_rfl))
 f271 := Tryz.func183.trans (congrArg some (by kernel_rfl))
 t0 := Tryz.underlying0
 a0 := Tryz.isAgg0
 z0 := Tryz.sizeOf0
 v0 := Tryz.zeroValue0
 t3 := Tryz.underlying3
 a3 := Tryz.isAgg3
 z3 := Tryz.sizeOf3
 v3 := Tryz.zeroValue3
 t4 := Tryz.underlying4
 a4 := Tryz.isAgg4
 z4 := Tryz.sizeOf4
 v4 := Tryz.zeroValue4
 t5 := Tryz.underlying5
 a5 := Tryz.isAgg5
 z5 := Tryz.sizeOf5
 v5 := Tryz.zeroValue5
 t9 := Tryz.underlying9
 a9 := Tryz.isAgg9
 z9 := Tryz.sizeOf9
 v9 := Tryz.zeroValue9
 t21 := Tryz.underlying21
 a21 := Tryz.isAgg21
 z21 := Tryz.sizeOf21
 v21 := Tryz.zeroValue21
 t46 := Tryz.underlying39
 a46 := Tryz.isAgg39
 z46 := Tryz.sizeOf39
 v46 := Tryz.zeroValue39
 t105 := Tryz.underlying140
 a105 := Tryz.isAgg140
 z105 := Tryz.sizeOf140
 v105 := Tryz.zeroValue140
 t116 := Tryz.underlying221
 a116 := Tryz.isAgg221
 z116 := Tryz.sizeOf221
 t117 := Tryz.underlying222
 a117 := Tryz.isAgg222
 z117 := Tryz.sizeOf222
 v117 := Tryz.zeroValue222
 t119 := Tryz.underlying229
 a119 := Tryz.isAgg229
 z119 := Tryz.sizeOf229
 t124 := Tryz.underlying225
 a124 := Tryz.isAgg225
 z124 := Tryz.sizeOf225
 v124 := Tryz.zeroValue225
 t138 := Tryz.underlying231
 a138 := Tryz.isAgg231
 z138 := Tryz.sizeOf231
 v138 := Tryz.zeroValue231
 t139 := Tryz.underlying232
 a139 := Tryz.isAgg232
 z139 := Tryz.sizeOf232
 v139 := Tryz.zeroValue232
 g3 := by kernel_rfl
 g4 := by kernel_rfl }
def Tryz.lays137_ren : Go.Shelf.Ren := ⟨fun | 137 => 62 | 217 => 96 | 266 => 131 | n => n, fun | 9 => 9 | 5 => 5 | 3 => 3 | n => n, fun | n => n⟩
theorem Tryz.lays137 : Go.Proofs.Lays.n137 Tryz.prog Tryz.lays137_ren := {
 mixed := by kernel_rfl
 f137 := Tryz.func62.trans (congrArg some (by kernel_rfl))
 f217 := Tryz.func96.trans (congrArg some (by kernel_rfl))
 f266 := Tryz.func131.trans (congrArg some (by kernel_rfl))
 t3 := Tryz.underlying3
 a3 := Tryz.isAgg3
 z3 := Tryz.sizeOf3
 v3 := Tryz.zeroValue3
 t5 := Tryz.underlying5
 a5 := Tryz.isAgg5
 z5 := Tryz.sizeOf5
 v5 := Tryz.zeroValue5
 t9 := Tryz.underlying9
 a9 := Tryz.isAgg9
 z9 := Tryz.sizeOf9
 v9 := Tryz.zeroValue9 }
open Go.RowKit in
theorem Tryz.strings_IndexByte (s : ByteArray) (c : Int) (w : World) :
  Calls Tryz.prog 62 #[.string s, .int .u8 c] w fun e w' => e = .returned (.int .i64 (Lib.indexByte s.data.toList c.toNat.toUInt8)) ∧ w' = w := Any.strings_IndexByte Tryz.lays137 s c w
open Go.RowKit in
theorem Tryz.Builder_Len_f (B b : Nat) (bs : List Value) (w : World) (h : Lib.IsBuilderF 70 5 B b bs w) :
  Calls Tryz.prog 50 #[.pointer (some ⟨b, 0, none⟩)] w fun e w' => e = .returned (.int .i64 bs.length) ∧ w' = w := Any.Builder_Len_f Tryz.lays170 B b bs w h
def Tryz.lays283_ren : Go.Shelf.Ren := ⟨fun | 283 => 83 | n => n, fun | 3 => 3 | 9 => 9 | 4 => 4 | n => n, fun | n => n⟩
theorem Tryz.lays283 : Go.Proofs.Lays.n283 Tryz.prog Tryz.lays283_ren := {
 mixed := by kernel_rfl
 f283 := Tryz.func83.trans (congrArg some (by kernel_rfl))
 t3 := Tryz.underlying3
 a3 := Tryz.isAgg3
 z3 := Tryz.sizeOf3
 v3 := Tryz.zeroValue3
 t4 := Tryz.underlying4
 a4 := Tryz.isAgg4
 z4 := Tryz.sizeOf4
 v4 := Tryz.zeroValue4
 t9 := Tryz.underlying9
 a9 := Tryz.isAgg9
 z9 := Tryz.sizeOf9
 v9 := Tryz.zeroValue9 }
open Go.Lib in
theorem Tryz.internal_strconv_small (i : Nat) (h : i < 100) (w : World) :
  Calls Tryz.prog 83 #[.int .i64 i] w fun e w' => e = .returned (.string ⟨(Lib.decDigits i).toArray⟩) ∧ w' = w := Any.internal_strconv_small Tryz.lays283 i h w
def Tryz.laysM284_ren : Go.Shelf.Ren := ⟨fun | 284 => 84 | 129 => 126 | 317 => 125 | 318 => 127 | n => n, fun | 53 => 105 | 3 => 3 | 212 => 200 | 0 => 0 | 4 => 4 | 46 => 39 | 5 => 5 | 9 => 9 | n => n, fun | 17 => 2 | n => n⟩
theorem Tryz.laysM284 : Go.Proofs.LaysM.n284 Tryz.prog Tryz.laysM284_ren := {
 mixed := by kernel_rfl
 f129 := Tryz.func126.trans (congrArg some (by kernel_rfl))
 f284 := Tryz.func84.trans (congrArg some (by kernel_rfl))
 f317 := Tryz.func125.trans (congrArg some (by kernel_rfl))
 f318 := Tryz.func127.trans (congrArg some (by kernel_rfl))
 t0 := Tryz.underlying0
 a0 := Tryz.isAgg0
 z0 := Tryz.sizeOf0
 v0 := Tryz.zeroValue0
 t3 := Tryz.underlying3
 a3 := Tryz.isAgg3
 z3 := Tryz.sizeOf3
 v3 := Tryz.zeroValue3
 t4 := Tryz.underlying4
 a4 := Tryz.isAgg4
 z4 := Tryz.sizeOf4
 v4 := Tryz.zeroValue4
 t5 := Tryz.underlying5
 a5 := Tryz.isAgg5
 z5 := Tryz.sizeOf5
 v5 := Tryz.zeroValue5
 t9 := Tryz.underlying9
 a9 := Tryz.isAgg9
 z9 := Tryz.sizeOf9
 v9 := Tryz.zeroValue9
 t46 := Tryz.underlying39
 a46 := Tryz.isAgg39
 z46 := Tryz.sizeOf39
 v46 := Tryz.zeroValue39
 t53 := Tryz.underlying105
 a53 := Tryz.isAgg105
 z53 := Tryz.sizeOf105
 v53 := Tryz.zeroValue105
 t212 := Tryz.underlying200
 a212 := Tryz.isAgg200
 z212 := Tryz.sizeOf200
 v212 := Tryz.zeroValue200
 g17 := by kernel_rfl
 i0 := by kernel_rfl
 i3 := by kernel_rfl
 i4 := by kernel_rfl
 i5 := by kernel_rfl
 i9 := by kernel_rfl
 i46 := by kernel_rfl
 i53 := by kernel_rfl
 i212 := by kernel_rfl
 m17 := by kernel_rfl }
open Go.Lib in
theorem Tryz.internal_strconv_numDigits (u : Nat) (h1 : 1 ≤ u) (h2 : u < 18446744073709551616) (w : World) (htab : Lib.TabIs Tryz.prog w "internal/strconv.uint64pow10" .u64 Lib.pow10Tab) :
  Calls Tryz.prog 84 #[.int .u64 u] w fun e w' => e = .returned (.int .i64 (Lib.nDigits u)) ∧ w' = w := Any.internal_strconv_numDigits Tryz.laysM284 u h1 h2 w htab
def Tryz.lays285_ren : Go.Shelf.Ren := ⟨fun | 285 => 85 | n => n, fun | 37 => 68 | 53 => 105 | 3 => 3 | 4 => 4 | 51 => 153 | 9 => 9 | 5 => 5 | 0 => 0 | n => n, fun | n => n⟩
theorem Tryz.lays285 : Go.Proofs.Lays.n285 Tryz.prog Tryz.lays285_ren := {
 mixed := by kernel_rfl
 f285 := Tryz.func85.trans (congrArg some (by kernel_rfl))
 t0 := Tryz.underlying0
 a0 := Tryz.isAgg0
 z0 := Tryz.sizeOf0
 v0 := Tryz.zeroValue0
 t3 := Tryz.underlying3
 a3 := Tryz.isAgg3
 z3 := Tryz.sizeOf3
 v3 := Tryz.zeroValue3
 t4 := Tryz.underlying4
 a4 := Tryz.isAgg4
 z4 := Tryz.sizeOf4
 v4 := Tryz.zeroValue4
 t5 := Tryz.underlying5
 a5 := Tryz.isAgg5
 z5 := Tryz.sizeOf5
 v5 := Tryz.zeroValue5
 t9 := Tryz.underlying9
 a9 := Tryz.isAgg9
 z9 := Tryz.sizeOf9
 v9 := Tryz.zeroValue9
 t37 := Tryz.underlying68
 a37 := Tryz.isAgg68
 z37 := Tryz.sizeOf68
 v37 := Tryz.zeroValue68
 t51 := Tryz.underlying153
 a51 := Tryz.isAgg153
 z51 := Tryz.sizeOf153
 v51 := Tryz.zeroValue153
 t53 := Tryz.underlying105
 a53 := Tryz.isAgg105
 z53 := Tryz.sizeOf105
 v53 := Tryz.zeroValue105 }
open Go.RowKit Go.Sort Go.Lib in
theorem Tryz.internal_strconv_formatBase10 (blk off cap : Nat) (u : Nat) (d : Array UInt8) (w : World) (hH : Holds (fun (b : UInt8) => Value.int .u8 (b.toNat : Int)) w blk off d) (hu : u < 10 ^ d.size) (hu64 : u < 18446744073709551616) (hsz : d.size < 4611686018427387904) :
  Calls Tryz.prog 85 #[.slice (some ⟨blk, off, none⟩) d.size cap, .int .u64 u] w fun e w' =>
   e = .returned (.tuple #[]) ∧ ∃ (n v' : Nat) (dk : Array UInt8), w' = (putRow (fun (b : UInt8) => Value.int .u8 (b.toNat : Int)) w blk off dk).drewN n ∧ FmtInv d.size u 0 v' dk := Any.internal_strconv_formatBase10 Tryz.lays285 blk off cap u d w hH hu hu64 hsz
def Tryz.laysM171_ren : Go.Shelf.Ren := ⟨fun | 171 => 15 | 243 => 34 | 246 => 52 | 283 => 83 | 284 => 84 | 285 => 85 | 286 => 86 | 129 => 126 | 317 => 125 | 318 => 127 | 319 => 128 | 320 => 129 | 337 => 164 | 338 => 165 | n => n, fun | 3 => 3 | 9 => 9 | 2 => 2 | 4 => 4 | 171 => 142 | 0 => 0 | 53 => 105 | 37 => 68 | 5 => 5 | 173 => 145 | 212 => 200 | 51 => 153 | 20 => 20 | 213 => 201 | 46 => 39 | 232 => 261 | 233 => 262 | n => n, fun | 17 => 2 | 18 => 6 | 19 => 7 | n => n⟩
theorem Tryz.laysM171 : Go.Proofs.LaysM.n171 Tryz.prog Tryz.laysM171_ren := {
 mixed := by kernel_rfl
 f129 := Tryz.func126.trans (congrArg some (by kernel_rfl))
 f171 := Tryz.func15.trans (congrArg some (by kernel_rfl))
 f243 := Tryz.func34.trans (congrArg some (by kernel_rfl))
 f246 := Tryz.func52.trans (congrArg some (by kernel_rfl))
 f283 := Tryz.func83.trans (congrArg some (by kernel_rfl))
 f284 := Tryz.func84.trans (congrArg some (by kernel_rfl))
 f285 := Tryz.func85.trans (congrArg some (by kernel_rfl))
 f286 := Tryz.func86.trans (congrArg some (by kernel_rfl))
 f317 := Tryz.func125.trans (congrArg some (by kernel_rfl))
 f318 := Tryz.func127.trans (congrArg some (by kernel_rfl))
 f319 := Tryz.func128.trans (congrArg some (by kernel_rfl))
 f320 := Tryz.func129.trans (congrArg some (by kernel_rfl))
 f337 := Tryz.func164.trans (congrArg some (by kernel_rfl))
 f338 := Tryz.func165.trans (congrArg some (by kernel_rfl))
 t0 := Tryz.underlying0
 a0 := Tryz.isAgg0
 z0 := Tryz.sizeOf0
 v0 := Tryz.zeroValue0
 t2 := Tryz.underlying2
 a2 := Tryz.isAgg2
 z2 := Tryz.sizeOf2
 v2 := Tryz.zeroValue2
 t3 := Tryz.underlying3
 a3 := Tryz.isAgg3
 z3 := Tryz.sizeOf3
 v3 := Tryz.zeroValue3
 t4 := Tryz.underlying4
 a4 := Tryz.isAgg4
 z4 := Tryz.sizeOf4
 v4 := Tryz.zeroValue4
 t5 := Tryz.underlying5
 a5 := Tryz.isAgg5
 z5 := Tryz.sizeOf5
 v5 := Tryz.zeroValue5
 t9 := Tryz.underlying9
 a9 := Tryz.isAgg9
 z9 := Tryz.sizeOf9
 v9 := Tryz.zeroValue9
 t20 := Tryz.underlying20
 a20 := Tryz.isAgg20
 z20 := Tryz.sizeOf20
 v20 := Tryz.zeroValue20
 t37 := Tryz.underlying68
 a37 := Tryz.isAgg68
 z37 := Tryz.sizeOf68
 v37 := Tryz.zeroValue68
 t46 := Tryz.underlying39
 a46 := Tryz.isAgg39
 z46 := Tryz.sizeOf39
 v46 := Tryz.zeroValue39
 t51 := Tryz.underlying153
 a51 := Tryz.isAgg153
 z51 := Tryz.sizeOf153
 v51 := Tryz.zeroValue153
 t53 := Tryz.underlying105
 a53 := Tryz.isAgg105
 z53 := Tryz.sizeOf105
 v53 := Tryz.zeroValue105
 t171 := Tryz.underlying142
 a171 := Tryz.isAgg142
 z171 := Tryz.sizeOf142
 v171 := Tryz.zeroValue142
 t173 := Tryz.underlying145
 a173 := Tryz.isAgg145
 z173 := Tryz.sizeOf145
 v173 := Tryz.zeroValue145
 t212 := Tryz.underlying200
 a212 := Tryz.isAgg200
 z212 := Tryz.sizeOf200
 v212 := Tryz.zeroValue200
 t213 := Tryz.underlying201
 a213 := Tryz.isAgg201
 z213 := Tryz.sizeOf201
 t232 := Tryz.underlying261
 a232 := Tryz.isAgg261
 z232 := Tryz.sizeOf261
 v232 := Tryz.zeroValue261
 t233 := Tryz.underlying262
 a233 := Tryz.isAgg262
 z233 := Tryz.sizeOf262
 v233 := Tryz.zeroValue262
 g17 := by kernel_rfl
 g18 := by kernel_rfl
 g19 := by kernel_rfl
 i0 := by kernel_rfl
 i2 := by kernel_rfl
 i3 := by kernel_rfl
 i4 := by kernel_rfl
 i5 := by kernel_rfl
 i9 := by kernel_rfl
 i20 := by kernel_rfl
 i37 := by kernel_rfl
 i46 := by kernel_rfl
 i51 := by kernel_rfl
 i53 := by kernel_rfl
 i171 := by kernel_rfl
 i173 := by kernel_rfl
 i212 := by kernel_rfl
 i232 := by kernel_rfl
 i233 := by kernel_rfl
 m17 := by kernel_rfl
 m18 := by kernel_rfl
 m19 := by kernel_rfl }
open Go.RowKit Go.Sort Go.Lib in
theorem Tryz.strconv_Itoa (n : Int) (h0 : -9223372036854775808 ≤ n) (h1 : n ≤ 9223372036854775807) (w : World) (htab : Lib.TabIs Tryz.prog w "internal/strconv.uint64pow10" .u64 Lib.pow10Tab) :
  Calls Tryz.prog 15 #[.int .i64 n] w fun e w' => e = .returned (.string ⟨(Lib.itoa n).toArray⟩) ∧ ∃ k os, w' = grow (w.drewN k) os := Any.strconv_Itoa Tryz.laysM171 n h0 h1 w htab
def Tryz.laysM173_ren : Go.Shelf.Ren := ⟨fun | 173 => 119 | 246 => 52 | 283 => 83 | 284 => 84 | 285 => 85 | 286 => 86 | 129 => 126 | 317 => 125 | 318 => 127 | 319 => 128 | 320 => 129 | 337 => 164 | 338 => 165 | n => n, fun | 2 => 2 | 3 => 3 | 9 => 9 | 4 => 4 | 171 => 142 | 0 => 0 | 53 => 105 | 37 => 68 | 5 => 5 | 173 => 145 | 212 => 200 | 51 => 153 | 20 => 20 | 213 => 201 | 46 => 39 | 232 => 261 | 233 => 262 | n => n, fun | 17 => 2 | 18 => 6 | 19 => 7 | n => n⟩
theorem Tryz.laysM173 : Go.Proofs.LaysM.n173 Tryz.prog Tryz.laysM173_ren := {
 mixed := by kernel_rfl
 f129 := Tryz.func126.trans (congrArg some (by kernel_rfl))
 f173 := Tryz.func119.trans (congrArg some (by kernel_rfl))
 f246 := Tryz.func52.trans (congrArg some (by kernel_rfl))
 f283 := Tryz.func83.trans (congrArg some (by kernel_rfl))
 f284 := Tryz.func84.trans (congrArg some (by kernel_rfl))
 f285 := Tryz.func85.trans (congrArg some (by kernel_rfl))
 f286 := Tryz.func86.trans (congrArg some (by kernel_rfl))
 f317 := Tryz.func125.trans (congrArg some (by kernel_rfl))
 f318 := Tryz.func127.trans (congrArg some (by kernel_rfl))
 f319 := Tryz.func128.trans (congrArg some (by kernel_rfl))
 f320 := Tryz.func129.trans (congrArg some (by kernel_rfl))
 f337 := Tryz.func164.trans (congrArg some (by kernel_rfl))
 f338 := Tryz.func165.trans (congrArg some (by kernel_rfl))
 t0 := Tryz.underlying0
 a0 := Tryz.isAgg0
 z0 := Tryz.sizeOf0
 v0 := Tryz.zeroValue0
 t2 := Tryz.underlying2
 a2 := Tryz.isAgg2
 z2 := Tryz.sizeOf2
 v2 := Tryz.zeroValue2
 t3 := Tryz.underlying3
 a3 := Tryz.isAgg3
 z3 := Tryz.sizeOf3
 v3 := Tryz.zeroValue3
 t4 := Tryz.underlying4
 a4 := Tryz.isAgg4
 z4 := Tryz.sizeOf4
 v4 := Tryz.zeroValue4
 t5 := Tryz.underlying5
 a5 := Tryz.isAgg5
 z5 := Tryz.sizeOf5
 v5 := Tryz.zeroValue5
 t9 := Tryz.underlying9
 a9 := Tryz.isAgg9
 z9 := Tryz.sizeOf9
 v9 := Tryz.zeroValue9
 t20 := Tryz.underlying20
 a20 := Tryz.isAgg20
 z20 := Tryz.sizeOf20
 v20 := Tryz.zeroValue20
 t37 := Tryz.underlying68
 a37 := Tryz.isAgg68
 z37 := Tryz.sizeOf68
 v37 := Tryz.zeroValue68
 t46 := Tryz.underlying39
 a46 := Tryz.isAgg39
 z46 := Tryz.sizeOf39
 v46 := Tryz.zeroValue39
 t51 := Tryz.underlying153
 a51 := Tryz.isAgg153
 z51 := Tryz.sizeOf153
 v51 := Tryz.zeroValue153
 t53 := Tryz.underlying105
 a53 := Tryz.isAgg105
 z53 := Tryz.sizeOf105
 v53 := Tryz.zeroValue105
 t171 := Tryz.underlying142
 a171 := Tryz.isAgg142
 z171 := Tryz.sizeOf142
 v171 := Tryz.zeroValue142
 t173 := Tryz.underlying145
 a173 := Tryz.isAgg145
 z173 := Tryz.sizeOf145
 v173 := Tryz.zeroValue145
 t212 := Tryz.underlying200
 a212 := Tryz.isAgg200
 z212 := Tryz.sizeOf200
 v212 := Tryz.zeroValue200
 t213 := Tryz.underlying201
 a213 := Tryz.isAgg201
 z213 := Tryz.sizeOf201
 t232 := Tryz.underlying261
 a232 := Tryz.isAgg261
 z232 := Tryz.sizeOf261
 v232 := Tryz.zeroValue261
 t233 := Tryz.underlying262
 a233 := Tryz.isAgg262
 z233 := Tryz.sizeOf262
 v233 := Tryz.zeroValue262
 g17 := by kernel_rfl
 g18 := by kernel_rfl
 g19 := by kernel_rfl
 i0 := by kernel_rfl
 i2 := by kernel_rfl
 i3 := by kernel_rfl
 i4 := by kernel_rfl
 i5 := by kernel_rfl
 i9 := by kernel_rfl
 i20 := by kernel_rfl
 i37 := by kernel_rfl
 i46 := by kernel_rfl
 i51 := by kernel_rfl
 i53 := by kernel_rfl
 i171 := by kernel_rfl
 i173 := by kernel_rfl
 i212 := by kernel_rfl
 i232 := by kernel_rfl
 i233 := by kernel_rfl
 m17 := by kernel_rfl
 m18 := by kernel_rfl
 m19 := by kernel_rfl }
open Go.RowKit Go.Sort Go.Lib in
theorem Tryz.strconv_FormatInt_10 (n : Int) (h0 : -9223372036854775808 ≤ n) (h1 : n ≤ 9223372036854775807) (w : World) (htab : Lib.TabIs Tryz.prog w "internal/strconv.uint64pow10" .u64 Lib.pow10Tab) :
  Calls Tryz.prog 119 #[.int .i64 n, .int .i64 10] w fun e w' => e = .returned (.string ⟨(Lib.itoa n).toArray⟩) ∧ ∃ k os, w' = grow (w.drewN k) os := Any.strconv_FormatInt_10 Tryz.laysM173 n h0 h1 w htab
def Tryz.laysC172_ren : Go.Shelf.Ren := ⟨fun | 172 => 118 | 244 => 157 | 245 => 36 | 247 => 35 | 279 => 54 | 280 => 55 | 281 => 56 | 282 => 57 | 287 => 53 | 316 => 89 | 171 => 15 | 205 => 90 | 321 => 87 | 322 => 88 | 243 => 34 | 246 => 52 | 283 => 83 | 284 => 84 | 285 => 85 | 286 => 86 | 129 => 126 | 317 => 125 | 318 => 127 | 319 => 128 | 320 => 129 | 337 => 164 | 338 => 165 | n => n, fun | 9 => 9 | 3 => 3 | 75 => 44 | 76 => 71 | 4 => 4 | 5 => 5 | 167 => 104 | 37 => 68 | 0 => 0 | 85 => 45 | 2 => 2 | 168 => 108 | 53 => 105 | 175 => 106 | 46 => 39 | 210 => 149 | 127 => 115 | 145 => 204 | 143 => 202 | 21 => 21 | 171 => 142 | 173 => 145 | 212 => 200 | 51 => 153 | 20 => 20 | 213 => 201 | 232 => 261 | 233 => 262 | 80 => 74 | n => n, fun | 15 => 0 | 16 => 1 | 17 => 2 | 18 => 6 | 19 => 7 | n => n⟩
theorem Tryz.laysC172 : Go.Proofs.LaysC.n172 Tryz.prog Tryz.laysC172_ren := {
 mixed := by kernel_rfl
 f129 := Tryz.func126.trans (congrArg some (by kernel_rfl))
 f171 := Tryz.func15.trans (congrArg some (by kernel_rfl))
 f172 := Tryz.func118.trans (congrArg some (by kernel_rfl))
 f205 := Tryz.func90.trans (congrArg some (by kernel_rfl))
 f243 := Tryz.func34.trans (congrArg some (by kernel_rfl))
 f244 := Tryz.func157.trans (congrArg some (by kernel_rfl))
 f245 := Tryz.func36.trans (congrArg some (by kernel_rfl))
 f246 := Tryz.func52.trans (congrArg some (by kernel_rfl))
 f247 := Tryz.func35.trans (congrArg some (by kernel_rfl))
 f279 := Tryz.func54.trans (congrArg some (by kernel_rfl))
 f280 := Tryz.func55.trans (congrArg some (by kernel_rfl))
 f281 := Tryz.func56.trans (congrArg some (by kernel_rfl))
 f282 := Tryz.func57.trans (congrArg some (by kernel_rfl))
 f283 := Tryz.func83.trans (congrArg some (by kernel_rfl))
 f284 := Tryz.func84.trans (congrArg some (by kernel_rfl))
 f285 := Tryz.func85.trans (congrArg some (by kernel_rfl))
 f286 := Tryz.func86.trans (congrArg some (by kernel_rfl))
 f287 := Tryz.func53.trans (congrArg some (by kernel_rfl))
 f316 := Tryz.func89.trans (congrArg some (by kernel_rfl))
 f317 := Tryz.func125.trans (congrArg some (by kernel_rfl))
 f318 := Tryz.func127.trans (congrArg some (by kernel_rfl))
 f319 := Tryz.func128.trans (congrArg some (by kernel_rfl))
 f320 := Tryz.func129.trans (congrArg some (by kernel_rfl))
 f321 := Tryz.func87.trans (congrArg some (by kernel_rfl))
 f322 := Tryz.func88.trans (congrArg some (by kernel_rfl))
 f337 := Tryz.func164.trans (congrArg some (by kernel_rfl))
 f338 := Tryz.func165.trans (congrArg some (by kernel_rfl))
 t0 := Tryz.underlying0
 a0 := Tryz.isAgg0
 z0 := Tryz.sizeOf0
 v0 := Tryz.zeroValue0
 t2 := Tryz.underlying2
 a2 := Tryz.isAgg2
 z2 := Tryz.sizeOf2
 v2 := Tryz.zeroValue2
 t3 := Tryz.underlying3
 a3 := Tryz.isAgg3
 z3 := Tryz.sizeOf3
 v3 := Tryz.zeroValue3
 t4 := Tryz.underlying4
 a4 := Tryz.isAgg4
 z4 := Tryz.sizeOf4
 v4 := Tryz.zeroValue4
 t5 := Tryz.underlying5
 a5 := Tryz.isAgg5
 z5 := Tryz.sizeOf5
 v5 := Tryz.zeroValue5
 t9 := Tryz.underlying9
 a9 := Tryz.isAgg9
 z9 := Tryz.sizeOf9
 v9 := Tryz.zeroValue9
 t20 := Tryz.underlying20
 a20 := Tryz.isAgg20
 z20 := Tryz.sizeOf20
 v20 := Tryz.zeroValue20
 t21 := Tryz.underlying21
 a21 := Tryz.isAgg21
 z21 := Tryz.sizeOf21
 v21 := Tryz.zeroValue21
 t37 := Tryz.underlying68
 a37 := Tryz.isAgg68
 z37 := Tryz.sizeOf68
 v37 := Tryz.zeroValue68
 t46 := Tryz.underlying39
 a46 := Tryz.isAgg39
 z46 := Tryz.sizeOf39
 v46 := Tryz.zeroValue39
 t51 := Tryz.underlying153
 a51 := Tryz.isAgg153
 z51 := Tryz.sizeOf153
 v51 := Tryz.zeroValue153
 t53 := Tryz.underlying105
 a53 := Tryz.isAgg105
 z53 := Tryz.sizeOf105
 v53 := Tryz.zeroValue105
 t75 := Tryz.underlying44
 a75 := Tryz.isAgg44
 z75 := Tryz.sizeOf44
 v75 := Tryz.zeroValue44
 t76 := Tryz.underlying71
 a76 := Tryz.isAgg71
 z76 := Tryz.sizeOf71
 v76 := Tryz.zeroValue71
 t85 := Tryz.underlying45
 a85 := Tryz.isAgg45
 z85 := Tryz.sizeOf45
 v85 := Tryz.zeroValue45
 t127 := Tryz.underlying115
 a127 := Tryz.isAgg115
 z127 := Tryz.sizeOf115
 v127 := Tryz.zeroValue115
 t143 := Tryz.underlying202
 a143 := Tryz.isAgg202
 z143 := Tryz.sizeOf202
 v143 := Tryz.zeroValue202
 t145 := Tryz.underlying204
 a145 := Tryz.isAgg204
 z145 := Tryz.sizeOf204
 v145 := Tryz.zeroValue204
 t167 := Tryz.underlying104
 a167 := Tryz.isAgg104
 z167 := Tryz.sizeOf104
 v167 := Tryz.zeroValue104
 t168 := Tryz.underlying108
 a168 := Tryz.isAgg108
 z168 := Tryz.sizeOf108
 v168 := Tryz.zeroValue108
 t171 := Tryz.underlying142
 a171 := Tryz.isAgg142
 z171 := Tryz.sizeOf142
 v171 := Tryz.zeroValue142
 t173 := Tryz.underlying145
 a173 := Tryz.isAgg145
 z173 := Tryz.sizeOf145
 v173 := Tryz.zeroValue145
 t175 := Tryz.underlying106
 a175 := Tryz.isAgg106
 z175 := Tryz.sizeOf106
 v175 := Tryz.zeroValue106
 t210 := Tryz.underlying149
 a210 := Tryz.isAgg149
 z210 := Tryz.sizeOf149
 v210 := Tryz.zeroValue149
 t212 := Tryz.underlying200
 a212 := Tryz.isAgg200
 z212 := Tryz.sizeOf200
 v212 := Tryz.zeroValue200
 t213 := Tryz.underlying201
 a213 := Tryz.isAgg201
 z213 := Tryz.sizeOf201
 t232 := Tryz.underlying261
 a232 := Tryz.isAgg261
 z232 := Tryz.sizeOf261
 v232 := Tryz.zeroValue261
 t233 := Tryz.underlying262
 a233 := Tryz.isAgg262
 z233 := Tryz.sizeOf262
 v233 := Tryz.zeroValue262
 g15 := by kernel_rfl
 g16 := by kernel_rfl
 g17 := by kernel_rfl
 g18 := by kernel_rfl
 g19 := by kernel_rfl
 t80 := Tryz.underlying74
 a80 := Tryz.isAgg74
 z80 := Tryz.sizeOf74
 v80 := Tryz.zeroValue74
 i0 := by kernel_rfl
 i2 := by kernel_rfl
 i3 := by kernel_rfl
 i4 := by kernel_rfl
 i5 := by kernel_rfl
 i9 := by kernel_rfl
 i20 := by kernel_rfl
 i21 := by kernel_rfl
 i37 := by kernel_rfl
 i46 := by kernel_rfl
 i51 := by kernel_rfl
 i53 := by kernel_rfl
 i75 := by kernel_rfl
 i76 := by kernel_rfl
 i80 := by kernel_rfl
 i85 := by kernel_rfl
 i127 := by kernel_rfl
 i143 := by kernel_rfl
 i145 := by kernel_rfl
 i167 := by kernel_rfl
 i168 := by kernel_rfl
 i171 := by kernel_rfl
 i173 := by kernel_rfl
 i175 := by kernel_rfl
 i210 := by kernel_rfl
 i212 := by kernel_rfl
 i232 := by kernel_rfl
 i233 := by kernel_rfl
 m15 := by kernel_rfl
 m16 := by kernel_rfl
 m17 := by kernel_rfl
 m18 := by kernel_rfl
 m19 := by kernel_rfl
 c0 := by kernel_rfl
 c2 := by kernel_rfl
 c3 := by kernel_rfl
 c4 := by kernel_rfl
 c5 := by kernel_rfl
 c9 := by kernel_rfl
 c20 := by kernel_rfl
 c21 := by kernel_rfl
 c37 := by kernel_rfl
 c46 := by kernel_rfl
 c51 := by kernel_rfl
 c53 := by kernel_rfl
 c75 := by kernel_rfl
 c76 := by kernel_rfl
 c80 := by kernel_rfl
 c85 := by kernel_rfl
 c127 := by kernel_rfl
 c143 := by kernel_rfl
 c145 := by kernel_rfl
 c167 := by kernel_rfl
 c168 := by kernel_rfl
 c171 := by kernel_rfl
 c173 := by kernel_rfl
 c175 := by kernel_rfl
 c210 := by kernel_rfl
 c212 := by kernel_rfl
 c213 := by kernel_rfl
 c232 := by kernel_rfl
 c233 := by kernel_rfl }
open Go.RowKit in
theorem Tryz.strconv_Atoi_ok (s : ByteArray) (hmax : s.size ≤ 9223372036854775806) (v : Int) (h : Lib.atoiAll s.data.toList = .ok v) (w : World) :
  Calls Tryz.prog 118 #[.string s] w fun e w' => e = .returned (.tuple #[.int .i64 v, .nilIface]) ∧ (w' = w ∨ ∃ t, w' = Lib.bytesWorld w 5 t) := Any.strconv_Atoi_ok Tryz.laysC172 s hmax v h w
def Tryz.lays144_ren : Go.Shelf.Ren := ⟨fun | 144 => 101 | 143 => 81 | 219 => 123 | 217 => 96 | 225 => 161 | 224 => 162 | 267 => 163 | 266 => 131 | 314 => 188 | n => n, fun | 9 => 9 | 4 => 4 | 3 => 3 | 5 => 5 | 46 => 39 | 146 => 154 | 51 => 153 | n => n, fun | 1 => 3 | n => n⟩
theorem Tryz.lays144 : Go.Proofs.Lays.n144 Tryz.prog Tryz.lays144_ren := {
 mixed := by kernel_rfl
 f143 := Tryz.func81.trans (congrArg some (by kernel_rfl))
 f144 := Tryz.func101.trans (congrArg some (by kernel_rfl))
 f217 := Tryz.func96.trans (congrArg some (by kernel_rfl))
 f219 := Tryz.func123.trans (congrArg some (by kernel_rfl))
 f224 := Tryz.func162.trans (congrArg some (by kernel_rfl))
 f225 := Tryz.func161.trans (congrArg some (by kernel_rfl))
 f266 := Tryz.func131.trans (congrArg some (by kernel_rfl))
 f267 := Tryz.func163.trans (congrArg some (by kernel_rfl))
 f314 := Tryz.func188.trans (congrArg some (by kernel_rfl))
 t3 := Tryz.underlying3
 a3 := Tryz.isAgg3
 z3 := Tryz.sizeOf3
 v3 := Tryz.zeroValue3
 t4 := Tryz.underlying4
 a4 := Tryz.isAgg4
 z4 := Tryz.sizeOf4
 v4 := Tryz.zeroValue4
 t5 := Tryz.underlying5
 a5 := Tryz.isAgg5
 z5 := Tryz.sizeOf5
 v5 := Tryz.zeroValue5
 t9 := Tryz.underlying9
 a9 := Tryz.isAgg9
 z9 := Tryz.sizeOf9
 v9 := Tryz.zeroValue9
 t46 := Tryz.underlying39
 a46 := Tryz.isAgg39
 z46 := Tryz.sizeOf39
 v46 := Tryz.zeroValue39
 t51 := Tryz.underlying153
 a51 := Tryz.isAgg153
 z51 := Tryz.sizeOf153
 v51 := Tryz.zeroValue153
 t146 := Tryz.underlying154
 a146 := Tryz.isAgg154
 z146 := Tryz.sizeOf154
 v146 := Tryz.zeroValue154
 g1 := by kernel_rfl }
open Go.RowKit Go.Lib in
theorem Tryz.strings_Contains_one (s : ByteArray) (c : UInt8) (w : World) :
  Calls Tryz.prog 101 #[.string s, .string ⟨#[c]⟩] w fun e w' => e = .returned (.bool (decide (0 ≤ Lib.indexByte s.data.toList c))) ∧ w' = w := Any.strings_Contains_one Tryz.lays144 s c w
def Tryz.lays145_ren : Go.Shelf.Ren := ⟨fun | 145 => 65 | 220 => 105 | 219 => 123 | 217 => 96 | 225 => 161 | 224 => 162 | 267 => 163 | 266 => 131 | 314 => 188 | n => n, fun | 9 => 9 | 4 => 4 | 59 => 124 | 3 => 3 | 5 => 5 | 46 => 39 | 146 => 154 | 51 => 153 | n => n, fun | 1 => 3 | n => n⟩
theorem Tryz.lays145 : Go.Proofs.Lays.n145 Tryz.prog Tryz.lays145_ren := {
 mixed := by kernel_rfl
 f145 := Tryz.func65.trans (congrArg some (by kernel_rfl))
 f217 := Tryz.func96.trans (congrArg some (by kernel_rfl))
 f219 := Tryz.func123.trans (congrArg some (by kernel_rfl))
 f220 := Tryz.func105.trans (congrArg some (by kernel_rfl))
 f224 := Tryz.func162.trans (congrArg some (by kernel_rfl))
 f225 := Tryz.func161.trans (congrArg some (by kernel_rfl))
 f266 := Tryz.func131.trans (congrArg some (by kernel_rfl))
 f267 := Tryz.func163.trans (congrArg some (by kernel_rfl))
 f314 := Tryz.func188.trans (congrArg some (by kernel_rfl))
 t3 := Tryz.underlying3
 a3 := Tryz.isAgg3
 z3 := Tryz.sizeOf3
 v3 := Tryz.zeroValue3
 t4 := Tryz.underlying4
 a4 := Tryz.isAgg4
 z4 := Tryz.sizeOf4
 v4 := Tryz.zeroValue4
 t5 := Tryz.underlying5
 a5 := Tryz.isAgg5
 z5 := Tryz.sizeOf5
 v5 := Tryz.zeroValue5
 t9 := Tryz.underlying9
 a9 := Tryz.isAgg9
 z9 := Tryz.sizeOf9
 v9 := Tryz.zeroValue9
 t46 := Tryz.underlying39
 a46 := Tryz.isAgg39
 z46 := Tryz.sizeOf39
 v46 := Tryz.zeroValue39
 t51 := Tryz.underlying153
 a51 := Tryz.isAgg153
 z51 := Tryz.sizeOf153
 v51 := Tryz.zeroValue153
 t59 := Tryz.underlying124
 a59 := Tryz.isAgg124
 z59 := Tryz.sizeOf124
 v59 := Tryz.zeroValue124
 t146 := Tryz.underlying154
 a146 := Tryz.isAgg154
 z146 := Tryz.sizeOf154
 v146 := Tryz.zeroValue154
 g1 := by kernel_rfl }
open Go.RowKit Go.Lib in
theorem Tryz.strings_Cut (s sep : ByteArray) (m : Int) (w : World) (hs : s.size < 4294967281) (hm : w.cell? ⟨3, 0, none⟩ = some (.int .i64 m)) :
  Calls Tryz.prog 65 #[.string s, .string sep] w fun e w' => e = .returned (.tuple #[.string ⟨(Lib.cut s.data.toList sep.data.toList).1.toArray⟩, .string ⟨(Lib.cut s.data.toList sep.data.toList).2.1.toArray⟩, .bool (Lib.cut s.data.toList sep.data.toList).2.2]) ∧ ∃ n, w' = w.drewN n := Any.strings_Cut Tryz.lays145 s sep m w hs hm
def Tryz.lays138_ren : Go.Shelf.Ren := ⟨fun | 138 => 80 | 195 => 121 | 218 => 122 | 143 => 81 | 219 => 123 | 217 => 96 | 225 => 161 | 224 => 162 | 267 => 163 | 266 => 131 | 314 => 188 | n => n, fun | 9 => 9 | 3 => 3 | 4 => 4 | 5 => 5 | 0 => 0 | 46 => 39 | 146 => 154 | 51 => 153 | n => n, fun | 1 => 3 | n => n⟩
theorem Tryz.lays138 : Go.Proofs.Lays.n138 Tryz.prog Tryz.lays138_ren := {
 mixed := by kernel_rfl
 f138 := Tryz.func80.trans (congrArg some (by kernel_rfl))
 f143 := Tryz.func81.trans (congrArg some (by kernel_rfl))
 f195 := Tryz.func121.trans (congrArg some (by kernel_rfl))
 f217 := Tryz.func96.trans (congrArg some (by kernel_rfl))
 f218 := Tryz.func122.trans (congrArg some (by kernel_rfl))
 f219 := Tryz.func123.trans (congrArg some (by kernel_rfl))
 f224 := Tryz.func162.trans (congrArg some (by kernel_rfl))
 f225 := Tryz.func161.trans (congrArg some (by kernel_rfl))
 f266 := Tryz.func131.trans (congrArg some (by kernel_rfl))
 f267 := Tryz.func163.trans (congrArg some (by kernel_rfl))
 f314 := Tryz.func188.trans (congrArg some (by kernel_rfl))
 t0 := Tryz.underlying0
 a0 := Tryz.isAgg0
 z0 := Tryz.sizeOf0
 v0 := Tryz.zeroValue0
 t3 := Tryz.underlying3
 a3 := Tryz.isAgg3
 z3 := Tryz.sizeOf3
 v3 := Tryz.zeroValue3
 t4 := Tryz.underlying4
 a4 := Tryz.isAgg4
 z4 := Tryz.sizeOf4
 v4 := Tryz.zeroValue4
 t5 := Tryz.underlying5
 a5 := Tryz.isAgg5
 z5 := Tryz.sizeOf5
 v5 := Tryz.zeroValue5
 t9 := Tryz.underlying9
 a9 := Tryz.isAgg9
 z9 := Tryz.sizeOf9
 v9 := Tryz.zeroValue9
 t46 := Tryz.underlying39
 a46 := Tryz.isAgg39
 z46 := Tryz.sizeOf39
 v46 := Tryz.zeroValue39
 t51 := Tryz.underlying153
 a51 := Tryz.isAgg153
 z51 := Tryz.sizeOf153
 v51 := Tryz.zeroValue153
 t146 := Tryz.underlying154
 a146 := Tryz.isAgg154
 z146 := Tryz.sizeOf154
 v146 := Tryz.zeroValue154
 g1 := by kernel_rfl }
open Go.RowKit Go.Lib in
theorem Tryz.strings_Count_one (s : ByteArray) (c : UInt8) (w : World) :
  Calls Tryz.prog 80 #[.string s, .string ⟨#[c]⟩] w fun e w' => e = .returned (.int .i64 (Lib.countByte s.data.toList c)) ∧ w' = w := Any.strings_Count_one Tryz.lays138 s c w
def Tryz.lays190_ren : Go.Shelf.Ren := ⟨fun | 190 => 68 | 125 => 110 | 258 => 109 | 128 => 145 | 129 => 126 | 302 => 136 | 303 => 137 | 304 => 138 | 305 => 139 | 306 => 140 | 307 => 141 | 308 => 142 | 309 => 143 | 310 => 144 | 333 => 169 | 329 => 170 | 330 => 171 | 334 => 172 | 335 => 173 | 336 => 174 | 344 => 190 | n => n, fun | 31 => 23 | 9 => 9 | 3 => 3 | 46 => 39 | 0 => 0 | 51 => 153 | 53 => 105 | 4 => 4 | 183 => 211 | 182 => 210 | 131 => 137 | 5 => 5 | 218 => 236 | 222 => 123 | 228 => 263 | 229 => 264 | n => n, fun | n => n⟩
theorem Tryz.lays190 : Go.Proofs.Lays.n190 Tryz.prog Tryz.lays190_ren := {
 mixed := by kernel_rfl
 f125 := Tryz.func110.trans (congrArg some (by kernel_rfl))
 f128 := Tryz.func145.trans (congrArg some (by kernel_rfl))
 f129 := Tryz.func126.trans (congrArg some (by kernel_rfl))
 f190 := Tryz.func68.trans (congrArg some (by kernel_rfl))
 f258 := Tryz.func109.trans (congrArg some (by kernel_rfl))
 f302 := Tryz.func136.trans (congrArg some (by kernel_rfl))
 f303 := Tryz.func137.trans (congrArg some (by kernel_rfl))
 f304 := Tryz.func138.trans (congrArg some (by kernel_rfl))
 f305 := Tryz.func139.trans (congrArg some (by kernel_rfl))
 f306 := Tryz.func140.trans (congrArg some (by kernel_rfl))
 f307 := Tryz.func141.trans (congrArg some (by kernel_rfl))
 f308 := Tryz.func142.trans (congrArg some (by kernel_rfl))
 f309 := Tryz.func143.trans (congrArg some (by kernel_rfl))
 f310 := Tryz.func144.trans (congrArg some (by kernel_rfl))
 f329 := Tryz.func170.trans (congrArg some (by kernel_rfl))
 f330 := Tryz.func171.trans (congrArg some (by kernel_rfl))
 f333 := Tryz.func169.trans (congrArg some (by kernel_rfl))
 f334 := Tryz.func172.trans (congrArg some (by kernel_rfl))
 f335 := Tryz.func173.trans (congrArg some (by kernel_rfl))
 f336 := Tryz.func174.trans (congrArg some (by kernel_rfl))
 f344 := Tryz.func190.trans (congrArg some (by kernel_rfl))
 t0 := Tryz.underlying0
 a0 := Tryz.isAgg0
 z0 := Tryz.sizeOf0
 v0 := Tryz.zeroValue0
 t3 := Tryz.underlying3
 a3 := Tryz.isAgg3
 z3 := Tryz.sizeOf3
 v3 := Tryz.zeroValue3
 t4 := Tryz.underlying4
 a4 := Tryz.isAgg4
 z4 := Tryz.sizeOf4
 v4 := Tryz.zeroValue4
 t5 := Tryz.underlying5
 a5 := Tryz.isAgg5
 z5 := Tryz.sizeOf5
 v5 := Tryz.zeroValue5
 t9 := Tryz.underlying9
 a9 := Tryz.isAgg9
 z9 := Tryz.sizeOf9
 v9 := Tryz.zeroValue9
 t31 := Tryz.underlying23
 a31 := Tryz.isAgg23
 z31 := Tryz.sizeOf23
 v31 := Tryz.zeroValue23
 t46 := Tryz.underlying39
 a46 := Tryz.isAgg39
 z46 := Tryz.sizeOf39
 v46 := Tryz.zeroValue39
 t51 := Tryz.underlying153
 a51 := Tryz.isAgg153
 z51 := Tryz.sizeOf153
 v51 := Tryz.zeroValue153
 t53 := Tryz.underlying105
 a53 := Tryz.isAgg105
 z53 := Tryz.sizeOf105
 v53 := Tryz.zeroValue105
 t131 := Tryz.underlying137
 a131 := Tryz.isAgg137
 z131 := Tryz.sizeOf137
 v131 := Tryz.zeroValue137
 t182 := Tryz.underlying210
 a182 := Tryz.isAgg210
 z182 := Tryz.sizeOf210
 v182 := Tryz.zeroValue210
 t183 := Tryz.underlying211
 a183 := Tryz.isAgg211
 z183 := Tryz.sizeOf211
 v183 := Tryz.zeroValue211
 t218 := Tryz.underlying236
 a218 := Tryz.isAgg236
 z218 := Tryz.sizeOf236
 v218 := Tryz.zeroValue236
 t222 := Tryz.underlying123
 a222 := Tryz.isAgg123
 z222 := Tryz.sizeOf123
 v222 := Tryz.zeroValue123
 t228 := Tryz.underlying263
 a228 := Tryz.isAgg263
 z228 := Tryz.sizeOf263
 v228 := Tryz.zeroValue263
 t229 := Tryz.underlying264
 a229 := Tryz.isAgg264
 z229 := Tryz.sizeOf264
 v229 := Tryz.zeroValue264 }
open Go.Sort Go.RowKit in
theorem Tryz.slices_Sort_string (blk off cap : Nat) (ss : List (List UInt8)) (w : World) (hH : Holds encStr w blk off ss.toArray) (hblk : blk < w.heap.size) (hsz : ss.length < 4611686018427387904) :
  Calls Tryz.prog 68 #[.slice (some ⟨blk, off, none⟩) ss.length cap] w fun e w' =>
   e = .returned (.tuple #[]) ∧ ∃ n os, w' = grow (putRow encStr (Sort.ahead w n) blk off (ss.mergeSort fun x y => decide (x ≤ y)).toArray) os := Any.slices_Sort_string Tryz.lays190 blk off cap ss w hH hblk hsz
def Tryz.lays99_ren : Go.Shelf.Ren := ⟨fun | 99 => 60 | 206 => 94 | n => n, fun | 9 => 9 | 4 => 4 | 3 => 3 | n => n, fun | n => n⟩
theorem Tryz.lays99 : Go.Proofs.Lays.n99 Tryz.prog Tryz.lays99_ren := {
 mixed := by kernel_rfl
 f99 := Tryz.func60.trans (congrArg some (by kernel_rfl))
 f206 := Tryz.func94.trans (congrArg some (by kernel_rfl))
 t3 := Tryz.underlying3
 a3 := Tryz.isAgg3
 z3 := Tryz.sizeOf3
 v3 := Tryz.zeroValue3
 t4 := Tryz.underlying4
 a4 := Tryz.isAgg4
 z4 := Tryz.sizeOf4
 v4 := Tryz.zeroValue4
 t9 := Tryz.underlying9
 a9 := Tryz.isAgg9
 z9 := Tryz.sizeOf9
 v9 := Tryz.zeroValue9 }
open Go.RowKit Go.Lib in
theorem Tryz.strings_HasPrefix (s p : ByteArray) (w : World) :
  Calls Tryz.prog 60 #[.string s, .string p] w fun e w' => e = .returned (.bool (Lib.hasPrefix s.data.toList p.data.toList)) ∧ w' = w := Any.strings_HasPrefix Tryz.lays99 s p w
def Tryz.lays101_ren : Go.Shelf.Ren := ⟨fun | 101 => 116 | 208 => 149 | 206 => 94 | n => n, fun | 9 => 9 | 4 => 4 | 3 => 3 | n => n, fun | n => n⟩
theorem Tryz.lays101 : Go.Proofs.Lays.n101 Tryz.prog Tryz.lays101_ren := {
 mixed := by kernel_rfl
 f101 := Tryz.func116.trans (congrArg some (by kernel_rfl))
 f206 := Tryz.func94.trans (congrArg some (by kernel_rfl))
 f208 := Tryz.func149.trans (congrArg some (by kernel_rfl))
 t3 := Tryz.underlying3
 a3 := Tryz.isAgg3
 z3 := Tryz.sizeOf3
 v3 := Tryz.zeroValue3
 t4 := Tryz.underlying4
 a4 := Tryz.isAgg4
 z4 := Tryz.sizeOf4
 v4 := Tryz.zeroValue4
 t9 := Tryz.underlying9
 a9 := Tryz.isAgg9
 z9 := Tryz.sizeOf9
 v9 := Tryz.zeroValue9 }
open Go.RowKit Go.Lib in
theorem Tryz.strings_TrimPrefix (s p : ByteArray) (w : World) :
  Calls Tryz.prog 116 #[.string s, .string p] w fun e w' => e = .returned (.string ⟨(Lib.trimPrefix s.data.toList p.data.toList).toArray⟩) ∧ w' = w := Any.strings_TrimPrefix Tryz.lays101 s p w
def Tryz.lays155_ren : Go.Shelf.Ren := ⟨fun | 155 => 33 | 154 => 51 | 138 => 80 | 165 => 61 | 143 => 81 | 166 => 37 | 197 => 82 | 169 => 39 | 195 => 121 | 218 => 122 | 240 => 58 | 241 => 95 | 219 => 123 | 260 => 124 | 276 => 91 | 277 => 130 | 217 => 96 | 225 => 161 | 224 => 162 | 267 => 163 | 266 => 131 | 314 => 188 | n => n, fun | 9 => 9 | 3 => 3 | 4 => 4 | 72 => 70 | 0 => 0 | 76 => 71 | 105 => 140 | 21 => 21 | 5 => 5 | 70 => 67 | 20 => 20 | 37 => 68 | 75 => 44 | 127 => 115 | 164 => 151 | 46 => 39 | 119 => 229 | 139 => 232 | 138 => 231 | 146 => 154 | 51 => 153 | 80 => 74 | n => n, fun | 1 => 3 | 3 => 4 | 4 => 5 | n => n⟩
theorem Tryz.lays155 : Go.Proofs.Lays.n155 Tryz.prog Tryz.lays155_ren := {
 mixed := by kernel_rfl
 f138 := Tryz.func80.trans (congrArg some (by kernel_rfl))
 f143 := Tryz.func81.trans (congrArg some (by kernel_rfl))
 f154 := Tryz.func51.trans (congrArg some (by kernel_rfl))
 f155 := Tryz.func33.trans (congrArg some (by kernel_rfl))
 f165 := Tryz.func61.trans (congrArg some (by kernel_rfl))
 f166 := Tryz.func37.trans (congrArg some (by kernel_rfl))
 f169 := Tryz.func39.trans (congrArg some (by kernel_rfl))
 f195 := Tryz.func121.trans (congrArg some (by kernel_rfl))
 f197 := Tryz.func82.trans (congrArg some (by kernel_rfl))
 f217 := Tryz.func96.trans (congrArg some (by kernel_rfl))
 f218 := Tryz.func122.trans (congrArg some (by kernel_rfl))
 f219 := Tryz.func123.trans (congrArg some (by kernel_rfl))
 f224 := Tryz.func162.trans (congrArg some (by kernel_rfl))
 f225 := Tryz.func161.trans (congrArg some (by kernel_rfl))
 f240 := Tryz.func58.trans (congrArg some (by kernel_rfl))
 f241 := Tryz.func95.trans (congrArg some (by kernel_rfl))
 f260 := Tryz.func124.trans (congrArg some (by kernel_rfl))
 f266 := Tryz.func131.trans (congrArg some (by kernel_rfl))
 f267 := Tryz.func163.trans (congrArg some (by kernel_rfl))
 f276 := Tryz.func91.trans (congrArg some (by kernel_rfl))
 f277 := Tryz.func130.trans (congrArg some (by kernel_rfl))
 f314 := Tryz.func188.trans (congrArg some (by kernel_rfl))
 t0 := Tryz.underlying0
 a0 := Tryz.isAgg0
 z0 := Tryz.sizeOf0
 v0 := Tryz.zeroValue0
 t3 := Tryz.underlying3
 a3 := Tryz.isAgg3
 z3 := Tryz.sizeOf3
 v3 := Tryz.zeroValue3
 t4 := Tryz.underlying4
 a4 := Tryz.isAgg4
 z4 := Tryz.sizeOf4
 v4 := Tryz.zeroValue4
 t5 := Tryz.underlying5
 a5 := Tryz.isAgg5
 z5 := Tryz.sizeOf5
 v5 := Tryz.zeroValue5
 t9 := Tryz.underlying9
 a9 := Tryz.isAgg9
 z9 := Tryz.sizeOf9
 v9 := Tryz.zeroValue9
 t20 := Tryz.underlying20
 a20 := Tryz.isAgg20
 z20 := Tryz.sizeOf20
 v20 := Tryz.zeroValue20
 t21 := Tryz.underlying21
 a21 := Tryz.isAgg21
 z21 := Tryz.sizeOf21
 v21 := Tryz.zeroValue21
 t37 := Tryz.underlying68
 a37 := Tryz.isAgg68
 z37 := Tryz.sizeOf68
 v37 := Tryz.zeroValue68
 t46 := Tryz.underlying39
 a46 := Tryz.isAgg39
 z46 := Tryz.sizeOf39
 v46 := Tryz.zeroValue39
 t51 := Tryz.underlying153
 a51 := Tryz.isAgg153
 z51 := Tryz.sizeOf153
 v51 := Tryz.zeroValue153
 t70 := Tryz.underlying67
 a70 := Tryz.isAgg67
 z70 := Tryz.sizeOf67
 v70 := Tryz.zeroValue67
 t72 := Tryz.underlying70
 a72 := Tryz.isAgg70
 z72 := Tryz.sizeOf70
 v72 := Tryz.zeroValue70
 t75 := Tryz.underlying44
 a75 := Tryz.isAgg44
 z75 := Tryz.sizeOf44
 v75 := Tryz.zeroValue44
 t76 := Tryz.underlying71
 a76 := Tryz.isAgg71
 z76 := Tryz.sizeOf71
 v76 := Tryz.zeroValue71
 t105 := Tryz.underlying140
 a105 := Tryz.isAgg140
 z105 := Tryz.sizeOf140
 v105 := Tryz.zeroValue140
 t119 := Tryz.underlying229
 a119 := Tryz.isAgg229
 z119 := Tryz.sizeOf229
 t127 := Tryz.underlying115
 a127 := Tryz.isAgg115
 z127 := Tryz.sizeOf115
 v127 := Tryz.zeroValue115
 t138 := Tryz.underlying231
 a138 := Tryz.isAgg231
 z138 := Tryz.sizeOf231
 v138 := Tryz.zeroValue231
 t139 := Tryz.underlying232
 a139 := Tryz.isAgg232
 z139 := Tryz.sizeOf232
 v139 := Tryz.zeroValue232
 t146 := Tryz.underlying154
 a146 := Tryz.isAgg154
 z146 := Tryz.sizeOf154
 v146 := Tryz.zeroValue154
 t164 := Tryz.underlying151
 a164 := Tryz.isAgg151
 z164 := Tryz.sizeOf151
 v164 := Tryz.zeroValue151
 g1 := by kernel_rfl
 g3 := by kernel_rfl
 g4 := by kernel_rfl }
theorem Tryz.Builder_Extra_155 : Builder.Extra Tryz.prog Tryz.lays155_ren := {
 sizeBuilder := by kernel_rfl
 liesBuilder := by kernel_rfl
 t5 := Tryz.underlying5
 a5 := Tryz.isAgg5
 z5 := Tryz.sizeOf5
 v5 := Tryz.zeroValue5
 infoByte := by kernel_rfl
 cellsByte := by kernel_rfl
 sizeByte := by kernel_rfl
 neB5 := by decide }
open Go.RowKit Go.Lib in
theorem Tryz.strings_ReplaceAll (s old new : ByteArray) (m : Int) (w : World) (hs : s.size < 4294967281) (hm : w.cell? ⟨3, 0, none⟩ = some (.int .i64 m)) (h1 : 1 ≤ old.size) (hlen : s.size + Lib.countB s old * new.size ≤ 140737488355328) :
  Calls Tryz.prog 33 #[.string s, .string old, .string new] w fun e w' =>
   e = .returned (.string ⟨(Lib.replaceAll s.data.toList old.data.toList new.data.toList).toArray⟩) ∧ Below w.heap.size w w' := Any.strings_ReplaceAll Tryz.lays155 Tryz.Builder_Extra_155 s old new m w hs hm h1 hlen
def Tryz.lays105_ren : Go.Shelf.Ren := ⟨fun | 105 => 38 | 212 => 59 | 99 => 60 | 165 => 61 | 166 => 37 | 170 => 50 | 169 => 39 | 263 => 92 | 264 => 93 | 206 => 94 | 240 => 58 | 241 => 95 | 276 => 91 | 277 => 130 | n => n, fun | 9 => 9 | 3 => 3 | 4 => 4 | 20 => 20 | 0 => 0 | 46 => 39 | 109 => 111 | 5 => 5 | 72 => 70 | 76 => 71 | 51 => 153 | 146 => 154 | 53 => 105 | 148 => 156 | 70 => 67 | 37 => 68 | 75 => 44 | 127 => 115 | 164 => 151 | 80 => 74 | n => n, fun | n => n⟩
theorem Tryz.lays105 : Go.Proofs.Lays.n105 Tryz.prog Tryz.lays105_ren := {
 mixed := by kernel_rfl
 f99 := Tryz.func60.trans (congrArg some (by kernel_rfl))
 f105 := Tryz.func38.trans (congrArg some (by kernel_rfl))
 f165 := Tryz.func61.trans (congrArg some (by kernel_rfl))
 f166 := Tryz.func37.trans (congrArg some (by kernel_rfl))
 f169 := Tryz.func39.trans (congrArg some (by kernel_rfl))
 f170 := Tryz.func50.trans (congrArg some (by kernel_rfl))
 f206 := Tryz.func94.trans (congrArg some (by kernel_rfl))
 f212 := Tryz.func59.trans (congrArg some (by kernel_rfl))
 f240 := Tryz.func58.trans (congrArg some (by kernel_rfl))
 f241 := Tryz.func95.trans (congrArg some (by kernel_rfl))
 f263 := Tryz.func92.trans (congrArg some (by kernel_rfl))
 f264 := Tryz.func93.trans (congrArg some (by kernel_rfl))
 f276 := Tryz.func91.trans (congrArg some (by kernel_rfl))
 f277 := Tryz.func130.trans (congrArg some (by kernel_rfl))
 t0 := Tryz.underlying0
 a0 := Tryz.isAgg0
 z0 := Tryz.sizeOf0
 v0 := Tryz.zeroValue0
 t3 := Tryz.underlying3
 a3 := Tryz.isAgg3
 z3 := Tryz.sizeOf3
 v3 := Tryz.zeroValue3
 t4 := Tryz.underlying4
 a4 := Tryz.isAgg4
 z4 := Tryz.sizeOf4
 v4 := Tryz.zeroValue4
 t5 := Tryz.underlying5
 a5 := Tryz.isAgg5
 z5 := Tryz.sizeOf5
 v5 := Tryz.zeroValue5
 t9 := Tryz.underlying9
 a9 := Tryz.isAgg9
 z9 := Tryz.sizeOf9
 v9 := Tryz.zeroValue9
 t20 := Tryz.underlying20
 a20 := Tryz.isAgg20
 z20 := Tryz.sizeOf20
 v20 := Tryz.zeroValue20
 t37 := Tryz.underlying68
 a37 := Tryz.isAgg68
 z37 := Tryz.sizeOf68
 v37 := Tryz.zeroValue68
 t46 := Tryz.underlying39
 a46 := Tryz.isAgg39
 z46 := Tryz.sizeOf39
 v46 := Tryz.zeroValue39
 t51 := Tryz.underlying153
 a51 := Tryz.isAgg153
 z51 := Tryz.sizeOf153
 v51 := Tryz.zeroValue153
 t53 := Tryz.underlying105
 a53 := Tryz.isAgg105
 z53 := Tryz.sizeOf105
 v53 := Tryz.zeroValue105
 t70 := Tryz.underlying67
 a70 := Tryz.isAgg67
 z70 := Tryz.sizeOf67
 v70 := Tryz.zeroValue67
 t72 := Tryz.underlying70
 a72 := Tryz.isAgg70
 z72 := Tryz.sizeOf70
 v72 := Tryz.zeroValue70
 t75 := Tryz.underlying44
 a75 := Tryz.isAgg44
 z75 := Tryz.sizeOf44
 v75 := Tryz.zeroValue44
 t76 := Tryz.underlying71
 a76 := Tryz.isAgg71
 z76 := Tryz.sizeOf71
 v76 := Tryz.zeroValue71
 t109 := Tryz.underlying111
 a109 := Tryz.isAgg111
 z109 := Tryz.sizeOf111
 v109 := Tryz.zeroValue111
 t127 := Tryz.underlying115
 a127 := Tryz.isAgg115
 z127 := Tryz.sizeOf115
 v127 := Tryz.zeroValue115
 t146 := Tryz.underlying154
 a146 := Tryz.isAgg154
 z146 := Tryz.sizeOf154
 v146 := Tryz.zeroValue154
 t148 := Tryz.underlying156
 a148 := Tryz.isAgg156
 z148 := Tryz.sizeOf156
 v148 := Tryz.zeroValue156
 t164 := Tryz.underlying151
 a164 := Tryz.isAgg151
 z164 := Tryz.sizeOf151
 v164 := Tryz.zeroValue151 }
theorem Tryz.Builder_Extra_105 : Builder.Extra Tryz.prog Tryz.lays105_ren := {
 sizeBuilder := by kernel_rfl
 liesBuilder := by kernel_rfl
 t5 := Tryz.underlying5
 a5 := Tryz.isAgg5
 z5 := Tryz.sizeOf5
 v5 := Tryz.zeroValue5
 infoByte := by kernel_rfl
 cellsByte := by kernel_rfl
 sizeByte := by kernel_rfl
 neB5 := by decide }
open Go.RowKit Go.Lib in
theorem Tryz.strings_Repeat (s : ByteArray) (c : Nat) (w : World) (hc : c ≤ 9223372036854775807) (hlen : s.size * c ≤ 140737488355328) :
  Calls Tryz.prog 38 #[.string s, .int .i64 c] w fun e w' => e = .returned (.string ⟨(Lib.repeatL s.data.toList c).toArray⟩) ∧ Below w.heap.size w w' := Any.strings_Repeat Tryz.lays105 Tryz.Builder_Extra_105 s c w hc hlen
end Go.Proofs
namespace Go.Proofs.YtelhdhofnohkcaaGreatDoor
open Go.Eng Go.RowKit Go.Sort Go.Fm
set_option maxRecDepth 20000
attribute [local irreducible] AG CallA CallT AWp PCall ACall AgC
theorem below_gd (w : World) (k : Nat) (os : Array Obj) : Below w.heap.size w (grow (w.drewN k) os) := by
 have e : (w.drewN k).heap = w.heap := rfl
 refine ⟨rfl, rfl, rfl, by simp [grow, e], fun j hj => ?_⟩
 simp only [grow, e]
 rw [Array.getElem?_append_left hj]
theorem zC (n : Int) (h : InR n) : PCall Tryz.prog 15 [dI n] fun r => r = dS (showB 10 n) := by
 refine qV ⟨_, Tryz.func15, rfl, rfl⟩ fun C w us hc hg hr => ?_
 have hg : glOk w := hg
 obtain rfl := repL_v (us := [.int .i64 n]) hr
 refine (Tryz.strconv_Itoa n h.1 h.2 w hg.1).mono ?_
 rintro e w' ⟨rfl, k, os, rfl⟩
 exact ⟨_, _, rfl, by rw [itoa_show], .v _, below_gd w k os⟩
theorem vI (n : Int) (h : InR n) : PCall Tryz.prog 119 [dI n, dI 10] fun r => r = dS (showB 10 n) := by
 refine qV ⟨_, Tryz.func119, rfl, rfl⟩ fun C w us hc hg hr => ?_
 have hg : glOk w := hg
 obtain rfl := repL_v (us := [.int .i64 n, .int .i64 10]) hr
 refine (Tryz.strconv_FormatInt_10 n h.1 h.2 w hg.1).mono ?_
 rintro e w' ⟨rfl, k, os, rfl⟩
 exact ⟨_, _, rfl, by rw [itoa_show], .v _, below_gd w k os⟩
theorem rep_tup2 {C : Ctx} {w : World} {a b : D} {x y : Value} (h1 : Rep C w a x) (h2 : Rep C w b y) : Rep C w (.tup [a, b]) (.tuple #[x, y]) := by
 refine .tup _ _ rfl fun j c u hc hu => ?_
 match j, hc, hu with
 | 0, hc, hu => simp at hc hu; subst hc hu; exact h1
 | 1, hc, hu => simp at hc hu; subst hc hu; exact h2
 | j + 2, hc, hu => simp at hc
theorem rep_tup3 {C : Ctx} {w : World} {a b c : D} {x y z : Value} (h1 : Rep C w a x) (h2 : Rep C w b y) (h3 : Rep C w c z) : Rep C w (.tup [a, b, c]) (.tuple #[x, y, z]) := by
 refine .tup _ _ rfl fun j c u hc hu => ?_
 match j, hc, hu with
 | 0, hc, hu => simp at hc hu; subst hc hu; exact h1
 | 1, hc, hu => simp at hc hu; subst hc hu; exact h2
 | 2, hc, hu => simp at hc hu; subst hc hu; exact h3
 | j + 3, hc, hu => simp at hc
abbrev idxV (s : Bs) (c : UInt8) : Int := if s.findIdx (· == c) < s.length then (s.findIdx (· == c) : Int) else -1
theorem zM (s : Bs) (c : UInt8) : PCall Tryz.prog 62 [dS s, dU c] fun r => r = dI (idxV s c) := by
 refine qV ⟨_, Tryz.func62, rfl, rfl⟩ fun C w us hc hg hr => ?_
 obtain rfl := repL_v (us := [.string ⟨s.toArray⟩, .int .u8 c.toNat]) hr
 refine (Tryz.strings_IndexByte ⟨s.toArray⟩ c.toNat w).mono ?_
 rintro e w' ⟨rfl, rfl⟩
 have e1 : ((c.toNat : Int).toNat.toUInt8) = c := by simp
 have e2 : (⟨s.toArray⟩ : ByteArray).data.toList = s := by simp
 exact ⟨_, _, rfl, by rw [e1, e2, indexByte_find], .v _, Below.refl _ _⟩
theorem zn (s p : Bs) : PCall Tryz.prog 60 [dS s, dS p] fun r => r = dB (p.isPrefixOf s) := by
 refine qV ⟨_, Tryz.func60, rfl, rfl⟩ fun C w us hc hg hr => ?_
 obtain rfl := repL_v (us := [.string ⟨s.toArray⟩, .string ⟨p.toArray⟩]) hr
 refine (Tryz.strings_HasPrefix ⟨s.toArray⟩ ⟨p.toArray⟩ w).mono ?_
 rintro e w' ⟨rfl, rfl⟩
 exact ⟨_, _, rfl, by simp [Lib.hasPrefix], .v _, Below.refl _ _⟩
theorem zN (s p : Bs) : PCall Tryz.prog 116 [dS s, dS p] fun r => r = dS (Lib.trimPrefix s p) := by
 refine qV ⟨_, Tryz.func116, rfl, rfl⟩ fun C w us hc hg hr => ?_
 obtain rfl := repL_v (us := [.string ⟨s.toArray⟩, .string ⟨p.toArray⟩]) hr
 refine (Tryz.strings_TrimPrefix ⟨s.toArray⟩ ⟨p.toArray⟩ w).mono ?_
 rintro e w' ⟨rfl, rfl⟩
 exact ⟨_, _, rfl, by simp, .v _, Below.refl _ _⟩
theorem ascii_of_all {p : List UInt8} (h : p.all (fun b => decide (b.toNat < 128)) = true) : ∀ (j : Nat) (b : UInt8), p[j]? = some b → b.toNat < 128 := fun j b hb => by
 have := List.all_eq_true.1 h b (List.mem_of_getElem? hb)
 simpa using this
theorem jE (s p : Bs) (hs : s.length ≤ 9223372036854775807) (hpl : p.length < 4294967281) (hp : p.all (fun b => decide (b.toNat < 128)) = true) : PCall Tryz.prog 117 [dS s, dS p] fun r => r = dS (Lib.trimS s p) := by
 refine qV ⟨_, Tryz.func117, rfl, rfl⟩ fun C w us hc' hg hr => ?_
 obtain rfl := repL_v (us := [.string ⟨s.toArray⟩, .string ⟨p.toArray⟩]) hr
 refine (Any.strings_Trim_laid Tryz.lays160 (by kernel_rfl) ⟨s.toArray⟩ ⟨p.toArray⟩ w (by simpa [ByteArray.size] using hs) (by simpa [ByteArray.size] using hpl) (ascii_of_all (by simpa using hp))).mono ?_
 rintro e w' ⟨rfl, hb⟩
 exact ⟨_, _, rfl, rfl, .v _, hb⟩
theorem jI (c : UInt8) (n : Int) (h0 : 0 ≤ n) (hn : n ≤ 1000000) : PCall Tryz.prog 38 [dS [c], dI n] fun r => r = dS (rep c n) := by
 refine qV ⟨_, Tryz.func38, rfl, rfl⟩ fun C w us hc' hg hr => ?_
 obtain ⟨k, rfl⟩ : ∃ k : Nat, n = k := ⟨n.toNat, by omega⟩
 obtain rfl := repL_v (us := [.string ⟨[c].toArray⟩, .int .i64 k]) hr
 refine (Tryz.strings_Repeat ⟨[c].toArray⟩ k w (by omega) (by simp [ByteArray.size]; omega)).mono ?_
 rintro e w' ⟨rfl, hb⟩
 exact ⟨_, _, rfl, by simp [repeat_rep, rep], .v _, hb⟩
theorem xJ (s : Bs) (hl : s.length ≤ 1000000) : PCall Tryz.prog 33 [dS s, dS [37], dS [37, 37]] fun r => r = dS (escV s) := by
 refine qV ⟨_, Tryz.func33, rfl, rfl⟩ fun C w us hc' hg hr => ?_
 have hg : glOk w := hg
 obtain rfl := repL_v (us := [.string ⟨s.toArray⟩, .string ⟨[37].toArray⟩, .string ⟨[37, 37].toArray⟩]) hr
 obtain ⟨m, hm⟩ := hg.2.1
 have hle := Lib.countB_le ⟨[37].toArray⟩ (by simp [ByteArray.size]) _ ⟨s.toArray⟩ (Nat.le_refl _)
 have hsz : (⟨s.toArray⟩ : ByteArray).size = s.length := by simp [ByteArray.size]
 refine (Tryz.strings_ReplaceAll ⟨s.toArray⟩ ⟨[37].toArray⟩ ⟨[37, 37].toArray⟩ m w (by rw [hsz]; omega) hm (by simp [ByteArray.size]) (by rw [hsz] at hle ⊢; simp [ByteArray.size]; omega)).mono ?_
 rintro e w' ⟨rfl, hb⟩
 exact ⟨_, _, rfl, by simp [replaceAll_esc], .v _, hb⟩
theorem jD (s : Bs) (hl : s.length ≤ 1000000) (ha : s.all (fun b => decide (b.toNat < 128)) = true) : PCall Tryz.prog 120 [dS s] fun r => r = dS (s.map upC) := by
 refine qV ⟨_, Tryz.func120, rfl, rfl⟩ fun C w us hc' hg hr => ?_
 obtain rfl := repL_v (us := [.string ⟨s.toArray⟩]) hr
 refine (Tryz.strings_ToUpper_ascii ⟨s.toArray⟩ w (by simp [ByteArray.size]; omega) (ascii_of_all (by simpa using ha))).mono ?_
 rintro e w' ⟨rfl, hb⟩
 exact ⟨_, _, rfl, by simp [upper_map], .v _, hb⟩
theorem Qv (s p : Bs) (hl : s.length < 4294967281) : PCall Tryz.prog 65 [dS s, dS p] fun r => r = .tup [dS (Lib.cut s p).1, dS (Lib.cut s p).2.1, dB (Lib.cut s p).2.2] := by
 refine qV ⟨_, Tryz.func65, rfl, rfl⟩ fun C w us hc hg hr => ?_
 have hg : glOk w := hg
 obtain rfl := repL_v (us := [.string ⟨s.toArray⟩, .string ⟨p.toArray⟩]) hr
 obtain ⟨m, hm⟩ := hg.2.1
 refine (Tryz.strings_Cut ⟨s.toArray⟩ ⟨p.toArray⟩ m w (by simpa [ByteArray.size] using hl) hm).mono ?_
 rintro e w' ⟨rfl, n, rfl⟩
 exact ⟨_, _, rfl, rfl, rep_tup3 (.v _) (.v _) (.v _), ⟨rfl, rfl, rfl, Nat.le_refl _, fun _ _ => rfl⟩⟩
end Go.Proofs.YtelhdhofnohkcaaGreatDoor
namespace Go.Proofs.YtelhdhofnohkcaaGreatDoor
open Go.Eng Go.Fm
set_option maxRecDepth 20000
attribute [local irreducible] AG CallA CallT AWp PCall ACall AgC
@[go_sem] abbrev fdB (g : Nat) (f : Fld) : Nat × (Nat × Blk) := (900003, (g, .box (cF f)))
theorem flagR_end {s : Bs} {a : Nat} (f : Fld) (h : s.length ≤ a) : flagR f (s.drop a) = (f, s.drop a) := by
 rw [List.drop_eq_nil_of_le h]; rfl
def flag1 (f : Fld) (c : UInt8) : Option Fld :=
 if c = 45 then some { f with lf := true } else if c = 48 then some { f with ze := true } else if c = 43 then some { f with pl := true }
 else if c = 32 then some { f with bl := true } else if c = 35 then some { f with ha := true } else none
theorem flagR_step {s : Bs} {a : Nat} {f f' : Fld} (h : flag1 f (pk (s.drop a)) = some f') : a < s.length ∧ flagR f (s.drop a) = flagR f' (s.drop (a + 1)) := by
 have hlt : a < s.length := by
  refine pk_lt fun q => ?_
  rw [q] at h; cases h
 refine ⟨hlt, ?_⟩
 conv => lhs; rw [pk_cons hlt]
 rw [flagR]
 unfold flag1 at h
 generalize pk (s.drop a) = c at *
 by_cases h1 : c = 45
 ·rw [if_pos h1] at h ⊢; cases h; rfl
 rw [if_neg h1] at h ⊢
 by_cases h2 : c = 48
 ·rw [if_pos h2] at h ⊢; cases h; rfl
 rw [if_neg h2] at h ⊢
 by_cases h3 : c = 43
 ·rw [if_pos h3] at h ⊢; cases h; rfl
 rw [if_neg h3] at h ⊢
 by_cases h4 : c = 32
 ·rw [if_pos h4] at h ⊢; cases h; rfl
 rw [if_neg h4] at h ⊢
 by_cases h5 : c = 35
 ·rw [if_pos h5] at h ⊢; cases h; rfl
 rw [if_neg h5] at h; cases h
theorem flagR_stop {s : Bs} {a : Nat} {f : Fld} (h : flag1 f (pk (s.drop a)) = none) : flagR f (s.drop a) = (f, s.drop a) := by
 by_cases hlt : a < s.length
 ·have e := pk_cons hlt
  rw [e]
  rw [flagR]
  unfold flag1 at h
  generalize pk (s.drop a) = c at *
  by_cases h1 : c = 45
  ·rw [if_pos h1] at h; cases h
  rw [if_neg h1] at h ⊢
  by_cases h2 : c = 48
  ·rw [if_pos h2] at h; cases h
  rw [if_neg h2] at h ⊢
  by_cases h3 : c = 43
  ·rw [if_pos h3] at h; cases h
  rw [if_neg h3] at h ⊢
  by_cases h4 : c = 32
  ·rw [if_pos h4] at h; cases h
  rw [if_neg h4] at h ⊢
  by_cases h5 : c = 35
  ·rw [if_pos h5] at h; cases h
  rw [if_neg h5]
 ·exact flagR_end f (by omega)
theorem u8_eqb (c : UInt8) (n : Nat) (hn : n < 256) : decide ((c.toNat : Int) = n) = decide (c = UInt8.ofNat n) := by
 rw [decide_eq_decide]; exact u8_int c n hn
set_option maxHeartbeats 8000000 in
theorem vJ (s : Bs) (a : Nat) (f : Fld) (g gf : Nat) (ha : a ≤ s.length) (hl : s.length ≤ 100000) :
  ACall Tryz.prog 98 [.ptr 900002 g 0, .ptr 900003 gf 0] [rdB g s a, fdB gf f] [900002, 900003]
   fun ps r => ps = [(g, .box [dS s, dI (posV s (flagR f (s.drop a)).2)]), (gf, .box (cF (flagR f (s.drop a)).1))] ∧ r = .tup [] := by 
 refine qY Tryz.func98 rfl rfl Tryz.ntmps98 (rs := []) (tys := []) rfl rfl (by simp) (by simp [qO]) ?_
 generalize hq : flagR f (s.drop a) = q
 obtain ⟨q1, q2⟩ := q
 simp only
 refine qo ?_
 refine qM (σ := Fld × Nat) (fun x => ⟨[(0, .ptr 900002 g 0), (1, .ptr 900003 gf 0)], [rdB g s x.2, fdB gf x.1]⟩)
  (fun x => flagR x.1 (s.drop x.2) = (q1, q2) ∧ x.2 ≤ s.length) (fun x => s.length - x.2) (f, a) ?_ ?_ ?_
 ·(refine ql ?_ ?_ <;> simp [go_sem])
 ·exact ⟨hq, ha⟩
 rintro ⟨h, i⟩ ⟨hx, hi⟩
 have hp := zH s i hl
 simp only at hx hi ⊢
 refine qo ?_
 refine qh fun K1 hK1 => ?_
 have hK1' : ∀ S' h', flag1 h (pk (s.drop i)) = some h' → Cov S' ⟨[(0, .ptr 900002 g 0), (1, .ptr 900003 gf 0)], [rdB g s i, fdB gf h']⟩ → K1 S' := fun S' h' hf hS => by
  obtain ⟨hlt, hst⟩ := flagR_step hf
  refine hK1 _ ?_; clear hK1
  refine qG hS ?_; clear hS
  (refine qx fun Y Yh => ?_; simp [go_sem]; ((repeat' (first|(refine qf ?_;simp [go_sem])|intro _|apply And.intro|(apply Yh;clear Yh Y)));all_goals first|apply QS|omega|with_reducible assumption|skip))
  refine ⟨(h', i + 1), ?_, ?_, ?_⟩
  ·(refine ql ?_ ?_ <;> simp [go_sem])
  ·exact ⟨by rw [← hst, hx], by simp; omega⟩
  ·simp; omega
 clear hK1
 have eqb : ∀ n : Nat, n < 256 → decide (((pk (s.drop i)).toNat : Int) = n) = decide (pk (s.drop i) = UInt8.ofNat n) := fun n hn => u8_eqb _ n hn
 have b45 : decide (((pk (s.drop i)).toNat : Int) = 45) = decide (pk (s.drop i) = 45) := eqb 45 (by decide)
 have b48 : decide (((pk (s.drop i)).toNat : Int) = 48) = decide (pk (s.drop i) = 48) := eqb 48 (by decide)
 have b43 : decide (((pk (s.drop i)).toNat : Int) = 43) = decide (pk (s.drop i) = 43) := eqb 43 (by decide)
 have b32 : decide (((pk (s.drop i)).toNat : Int) = 32) = decide (pk (s.drop i) = 32) := eqb 32 (by decide)
 have b35 : decide (((pk (s.drop i)).toNat : Int) = 35) = decide (pk (s.drop i) = 35) := eqb 35 (by decide)
 (refine qc fun Y Yh => ?_; simp [go_sem]; ((repeat' (first|(refine qf ?_;simp [go_sem])|intro _|apply And.intro|(apply Yh;clear Yh Y)));all_goals first|apply QS|omega|with_reducible assumption|skip))
 ((try refine QT ?_); refine qU (.inl ⟨rfl,rfl⟩) ?_; intro args ha; simp [go_sem] at ha; subst ha; refine ⟨_, hp, ?_⟩; rintro _ rfl; refine ⟨rfl, ?_⟩; simp [go_sem, b45, b48, b43, b32, b35]; ((repeat' (first|(refine qf ?_;simp [go_sem, b45, b48, b43, b32, b35])|intro _|apply And.intro|(apply Yh;clear Yh Y)));all_goals first|apply QS|omega|with_reducible assumption|skip))
 refine qo ?_
 (refine qc fun Y Yh => ?_; simp [go_sem, b45]; ((repeat' (first|(refine qf ?_;simp [go_sem, b45])|intro _|apply And.intro|(apply Yh;clear Yh Y)));all_goals first|apply QS|omega|with_reducible assumption|skip))
 by_cases h1 : pk (s.drop i) = 45
 ·(refine qg fun T F hT hF => ?_; simp [go_sem, h1]; refine hT ?_; clear hT hF T F)
  (refine qx fun Y Yh => ?_; simp [go_sem]; ((repeat' (first|(refine qf ?_;simp [go_sem])|intro _|apply And.intro|(apply Yh;clear Yh Y)));all_goals first|apply QS|omega|with_reducible assumption|skip))
  refine hK1' _ { h with lf := true } (by unfold flag1; rw [if_pos h1]) ?_
  (refine ql ?_ ?_ <;> simp [go_sem])
 (refine qg fun T F hT hF => ?_; simp [go_sem, h1]; refine hF ?_; clear hT hF T F)
 (refine qc fun Y Yh => ?_; simp [go_sem, b48]; ((repeat' (first|(refine qf ?_;simp [go_sem, b48])|intro _|apply And.intro|(apply Yh;clear Yh Y)));all_goals first|apply QS|omega|with_reducible assumption|skip))
 by_cases h2 : pk (s.drop i) = 48
 ·(refine qg fun T F hT hF => ?_; simp [go_sem, h2]; refine hT ?_; clear hT hF T F)
  (refine qx fun Y Yh => ?_; simp [go_sem]; ((repeat' (first|(refine qf ?_;simp [go_sem])|intro _|apply And.intro|(apply Yh;clear Yh Y)));all_goals first|apply QS|omega|with_reducible assumption|skip))
  refine hK1' _ { h with ze := true } (by unfold flag1; rw [if_neg h1, if_pos h2]) ?_
  (refine ql ?_ ?_ <;> simp [go_sem])
 (refine qg fun T F hT hF => ?_; simp [go_sem, h2]; refine hF ?_; clear hT hF T F)
 (refine qc fun Y Yh => ?_; simp [go_sem, b43]; ((repeat' (first|(refine qf ?_;simp [go_sem, b43])|intro _|apply And.intro|(apply Yh;clear Yh Y)));all_goals first|apply QS|omega|with_reducible assumption|skip))
 by_cases h3 : pk (s.drop i) = 43
 ·(refine qg fun T F hT hF => ?_; simp [go_sem, h3]; refine hT ?_; clear hT hF T F)
  (refine qx fun Y Yh => ?_; simp [go_sem]; ((repeat' (first|(refine qf ?_;simp [go_sem])|intro _|apply And.intro|(apply Yh;clear Yh Y)));all_goals first|apply QS|omega|with_reducible assumption|skip))
  refine hK1' _ { h with pl := true } (by unfold flag1; rw [if_neg h1, if_neg h2, if_pos h3]) ?_
  (refine ql ?_ ?_ <;> simp [go_sem])
 (refine qg fun T F hT hF => ?_; simp [go_sem, h3]; refine hF ?_; clear hT hF T F)
 (refine qc fun Y Yh => ?_; simp [go_sem, b32]; ((repeat' (first|(refine qf ?_;simp [go_sem, b32])|intro _|apply And.intro|(apply Yh;clear Yh Y)));all_goals first|apply QS|omega|with_reducible assumption|skip))
 by_cases h4 : pk (s.drop i) = 32
 ·(refine qg fun T F hT hF => ?_; simp [go_sem, h4]; refine hT ?_; clear hT hF T F)
  (refine qx fun Y Yh => ?_; simp [go_sem]; ((repeat' (first|(refine qf ?_;simp [go_sem])|intro _|apply And.intro|(apply Yh;clear Yh Y)));all_goals first|apply QS|omega|with_reducible assumption|skip))
  refine hK1' _ { h with bl := true } (by unfold flag1; rw [if_neg h1, if_neg h2, if_neg h3, if_pos h4]) ?_
  (refine ql ?_ ?_ <;> simp [go_sem])
 (refine qg fun T F hT hF => ?_; simp [go_sem, h4]; refine hF ?_; clear hT hF T F)
 (refine qc fun Y Yh => ?_; simp [go_sem, b35]; ((repeat' (first|(refine qf ?_;simp [go_sem, b35])|intro _|apply And.intro|(apply Yh;clear Yh Y)));all_goals first|apply QS|omega|with_reducible assumption|skip))
 by_cases h5 : pk (s.drop i) = 35
 ·(refine qg fun T F hT hF => ?_; simp [go_sem, h5]; refine hT ?_; clear hT hF T F)
  (refine qx fun Y Yh => ?_; simp [go_sem]; ((repeat' (first|(refine qf ?_;simp [go_sem])|intro _|apply And.intro|(apply Yh;clear Yh Y)));all_goals first|apply QS|omega|with_reducible assumption|skip))
  refine hK1' _ { h with ha := true } (by unfold flag1; rw [if_neg h1, if_neg h2, if_neg h3, if_neg h4, if_pos h5]) ?_
  (refine ql ?_ ?_ <;> simp [go_sem])
 (refine qg fun T F hT hF => ?_; simp [go_sem, h5]; refine hF ?_; clear hT hF T F)
 rw [flagR_stop (by unfold flag1; rw [if_neg h1, if_neg h2, if_neg h3, if_neg h4, if_neg h5])] at hx
 cases hx
 have e3 : posV s (s.drop i) = i := by simp [posV]; omega
 (refine qj ?_; simp [go_sem, e3])
theorem ba_cut (s : Bs) (i j : Nat) : ({ data := s.toArray } : ByteArray).extract i j = { data := ((s.take j).drop i).toArray } := by
 apply ByteArray.ext
 simp [List.extract_eq_take_drop, List.drop_take]
theorem ba_size (s : Bs) : ({ data := s.toArray } : ByteArray).size = s.length := by simp [ByteArray.size]
theorem ba_drop (s : Bs) (n : Nat) : ({ data := s.toArray } : ByteArray).extract n s.length = { data := (s.drop n).toArray } := by
 rw [ba_cut, List.take_length]
def nmQ (s : Bs) (a : Nat) : Bs × Bool × Nat := match nameV (s.drop a) with
 | none => ([], false, a)
 | some (nm, r) => (nm, true, posV s r)
theorem nm_if {C : Prop} [Decidable C] {xs R s : Bs} {a k : Nat} (e : C → posV s R = k) :
  (match (if C then some (xs, R) else none) with | none => (([] : Bs), false, a) | some (nm, r) => (nm, true, posV s r)) = if C then (xs, true, k) else ([], false, a) := by
 by_cases hc : C
 ·rw [if_pos hc, if_pos hc]; simp only [e hc]
 ·rw [if_neg hc, if_neg hc]
set_option maxHeartbeats 8000000 in
theorem wI (s : Bs) (a : Nat) (g : Nat) (ha : a ≤ s.length) (hl : s.length ≤ 100000) :
  ACall Tryz.prog 97 [.ptr 900002 g 0] [rdB g s a] [900002]
   fun ps r => ps = [(g, .box [dS s, dI (nmQ s a).2.2])] ∧ r = .tup [dS (nmQ s a).1, dB (nmQ s a).2.1] := by 
 refine qY Tryz.func97 rfl rfl Tryz.ntmps97 (rs := [.tmp 2, .tmp 3]) (tys := [9, 4]) rfl rfl (by simp) (by simp [qO]) ?_
 have hp := zH s a hl
 have b60 : decide (((pk (s.drop a)).toNat : Int) = 60) = decide (pk (s.drop a) = 60) := u8_eqb _ 60 (by decide)
 by_cases h60 : pk (s.drop a) = 60
 ·have hlt := pk_lt (s := s) (a := a) (by rw [h60]; decide)
  have hI := zM (s.drop a) 62
  (refine qc fun Y Yh => ?_; simp [go_sem]; ((repeat' (first|(refine qf ?_;simp [go_sem])|intro _|apply And.intro|(apply Yh;clear Yh Y)));all_goals first|apply QS|omega|with_reducible assumption|skip))
  refine qh fun K1 hK1 => ?_
  (refine qc fun Y Yh => ?_; simp [go_sem]; ((repeat' (first|(refine qf ?_;simp [go_sem])|intro _|apply And.intro|(apply Yh;clear Yh Y)));all_goals first|apply QS|omega|with_reducible assumption|skip))
  ((try refine QT ?_); refine qU (.inl ⟨rfl,rfl⟩) ?_; intro args ha; simp [go_sem] at ha; subst ha; refine ⟨_, hp, ?_⟩; rintro _ rfl; refine ⟨rfl, ?_⟩; simp [go_sem, b60]; ((repeat' (first|(refine qf ?_;simp [go_sem, b60])|intro _|apply And.intro|(apply Yh;clear Yh Y)));all_goals first|apply QS|omega|with_reducible assumption|skip))
  (refine qg fun T F hT hF => ?_; simp [go_sem, h60]; refine hF ?_; clear hT hF T F)
  refine qi ?_
  refine hK1 _ ?_; clear hK1
  ((refine qX (.qs [0, 1, 2, 4, 5, 6, 3, 7, 8] (.one 9 (.qs [10] (.nil)))) (by kernel_rfl) ?_ ?_ ?_ ?_); (kernel_rfl); (exact (by decide +kernel)); (kernel_rfl); intro Y Yh; ((repeat' (first|(refine qf ?_;simp [go_sem, ba_size, ba_drop])|refine qC ?_|((first|refine qJ fun Y Yh=>?_|refine qR fun Y Yh=>?_);simp [go_sem, ba_size, ba_drop])|intro _|apply And.intro|(apply Yh;clear Yh Y)));all_goals first|apply QS|omega|with_reducible assumption|skip))
  ((try refine QT ?_); refine qm (.inl ⟨rfl,rfl⟩) (by simp [go_sem]) ?_; intro args ha; simp [go_sem] at ha; subst ha; refine ⟨_, hI, ?_⟩; rintro _ rfl; simp [go_sem]; ((repeat' (first|(refine qf ?_;simp [go_sem])|refine qC ?_|((first|refine qJ fun Y Yh=>?_|refine qR fun Y Yh=>?_);simp [go_sem])|intro _|apply And.intro|(apply Yh;clear Yh Y)));all_goals first|apply QS|omega|with_reducible assumption|skip))
  refine qh fun K3 hK3 => ?_
  have hsplit : nmQ s a = if (s.drop a).findIdx (· == 62) < (s.drop a).length ∧ 2 ≤ (s.drop a).findIdx (· == 62) ∧ (((s.drop a).take ((s.drop a).findIdx (· == 62))).drop 1).all isNm then ((((s.drop a).take ((s.drop a).findIdx (· == 62))).drop 1), true, a + ((s.drop a).findIdx (· == 62) + 1)) else ([], false, a) := by
   unfold nmQ nameV
   rw [if_neg (by simp [h60])]
   refine nm_if (k := a + ((s.drop a).findIdx (· == 62) + 1)) fun hc => ?_
   have := hc.1
   simp only [List.length_drop] at this
   simp only [posV, List.length_drop]; omega
  have hx : idxV (s.drop a) 62 = if (s.drop a).findIdx (· == 62) < (s.drop a).length then (((s.drop a).findIdx (· == 62) : Nat) : Int) else -1 := rfl
  have hdl : (s.drop a).length = s.length - a := List.length_drop
  generalize hn : (s.drop a).findIdx (· == 62) = n at *
  by_cases hc : n < (s.drop a).length ∧ 2 ≤ n
  ·rw [hx, if_pos hc.1]
   have h2 : ¬ (n : Int) < 2 := by omega
   have hX : (s.take (a + n)).drop (a + 1) = ((s.drop a).take n).drop 1 := by
    rw [List.drop_take, List.drop_take, List.drop_drop]
    congr 1; omega
   have hcut : ({ data := s.toArray } : ByteArray).extract (a + 1) ((a : Int) + (n : Int)).toNat = { data := (((s.drop a).take n).drop 1).toArray } := by rw [show ((a : Int) + (n : Int)).toNat = a + n by omega, ba_cut, hX]
   have hT := jE (((s.drop a).take n).drop 1) nmL (by simp; omega) (by decide) (by decide)
   have hTn := trim_names (((s.drop a).take n).drop 1)
   generalize ((s.drop a).take n).drop 1 = xs at *
   ((refine qX (.qs [0, 1, 2, 3, 4, 5, 7, 8, 9, 12, 13, 14, 16, 6, 10, 11, 15, 17, 18] (.one 19 (.qs [20, 21] (.nil)))) (by kernel_rfl) ?_ ?_ ?_ ?_); (kernel_rfl); (exact (by decide +kernel)); (kernel_rfl); intro Y Yh; ((repeat' (first|(refine qf ?_;simp [go_sem, h2, ba_size, hcut])|refine qC ?_|((first|refine qJ fun Y Yh=>?_|refine qR fun Y Yh=>?_);simp [go_sem, h2, ba_size, hcut])|intro _|apply And.intro|(apply Yh;clear Yh Y)));all_goals first|apply QS|omega|with_reducible assumption|skip))
   (refine xw (dS (Lib.trimS xs nmL)) (.inl ⟨rfl,rfl⟩) ?_ rfl ?_; (intro hc args ha; simp [go_sem] at ha; subst ha; exact hT); simp [go_sem]; ((repeat' (first|(refine qf ?_;simp [go_sem])|refine qC ?_|((first|refine qJ fun Y Yh=>?_|refine qR fun Y Yh=>?_);simp [go_sem])|intro _|apply And.intro|(apply Yh;clear Yh Y)));all_goals first|apply QS|omega|with_reducible assumption|skip))
   by_cases hall : xs.all isNm = true
   ·rw [if_pos ⟨hc.1, hc.2, hall⟩] at hsplit
    rw [hsplit]
    (refine qg fun T F hT hF => ?_; simp [go_sem, hTn.2 hall]; refine hF ?_; clear hT hF T F)
    refine qi ?_
    refine hK3 _ ?_; clear hK3
    ((refine qX (.qs [0, 1, 2, 4, 5, 6, 9, 10, 11, 13, 3, 7, 8, 12, 14, 15, 16] (.nil)) (by kernel_rfl) ?_ ?_ ?_ ?_); (kernel_rfl); (exact (by decide +kernel)); (kernel_rfl); intro Y Yh; ((repeat' (first|(refine qf ?_;simp [go_sem, ba_size, hcut])|refine qC ?_|((first|refine qJ fun Y Yh=>?_|refine qR fun Y Yh=>?_);simp [go_sem, ba_size, hcut])|intro _|apply And.intro|(apply Yh;clear Yh Y)));all_goals first|apply QS|omega|with_reducible assumption|skip))
    (refine qc fun Y Yh => ?_; simp [go_sem]; ((repeat' (first|(refine qf ?_;simp [go_sem])|intro _|apply And.intro|(apply Yh;clear Yh Y)));all_goals first|apply QS|omega|with_reducible assumption|skip))
    (refine qc fun Y Yh => ?_; simp [go_sem]; ((repeat' (first|(refine qf ?_;simp [go_sem])|intro _|apply And.intro|(apply Yh;clear Yh Y)));all_goals first|apply QS|omega|with_reducible assumption|skip))
    (refine qj ?_; simp [go_sem, hsplit])
   ·rw [if_neg (fun q => hall q.2.2)] at hsplit
    rw [hsplit]
    have hne : (Lib.trimS xs nmL).isEmpty = false := by
     cases hz : Lib.trimS xs nmL with
     | nil => exact absurd (hTn.1 hz) hall
     | cons _ _ => rfl
    (refine qg fun T F hT hF => ?_; simp [go_sem, hne]; refine hT ?_; clear hT hF T F)
    (refine qc fun Y Yh => ?_; simp [go_sem]; ((repeat' (first|(refine qf ?_;simp [go_sem])|intro _|apply And.intro|(apply Yh;clear Yh Y)));all_goals first|apply QS|omega|with_reducible assumption|skip))
    (refine qj ?_; simp [go_sem, hsplit])
  ·rw [if_neg (fun q => hc ⟨q.1, q.2.1⟩)] at hsplit
   rw [hsplit]
   have h2 : idxV (s.drop a) 62 < 2 := by rw [hx]; split <;> omega
   generalize idxV (s.drop a) 62 = j at *
   ((refine qX (.qs [0, 1, 2] (.sk 3 (.sk 4 (.sk 5 (.sk 7 (.sk 8 (.sk 9 (.sk 12 (.sk 13 (.sk 14 (.sk 16 (.sk 6 (.sk 10 (.sk 11 (.sk 15 (.sk 17 (.sk 18 (.sk 19 (.sk 20 (.qs [21] (.nil))))))))))))))))))))) (by kernel_rfl) ?_ ?_ ?_ ?_); (kernel_rfl); (exact (by decide +kernel)); (kernel_rfl); intro Y Yh; ((repeat' (first|(refine qf ?_;simp [go_sem, h2, undef])|refine qC ?_|((first|refine qJ fun Y Yh=>?_|refine qR fun Y Yh=>?_);simp [go_sem, h2, undef])|intro _|apply And.intro|(apply Yh;clear Yh Y)));all_goals first|apply QS|omega|with_reducible assumption|skip))
   (refine qg fun T F hT hF => ?_; simp [go_sem]; refine hT ?_; clear hT hF T F)
   (refine qc fun Y Yh => ?_; simp [go_sem]; ((repeat' (first|(refine qf ?_;simp [go_sem])|intro _|apply And.intro|(apply Yh;clear Yh Y)));all_goals first|apply QS|omega|with_reducible assumption|skip))
   (refine qj ?_; simp [go_sem, hsplit])
 ·have e : nmQ s a = ([], true, a) := by
   have e3 : posV s (s.drop a) = a := by simp [posV]; omega
   unfold nmQ nameV; rw [if_pos h60]; simp only [e3]
  rw [e]
  (refine qc fun Y Yh => ?_; simp [go_sem]; ((repeat' (first|(refine qf ?_;simp [go_sem])|intro _|apply And.intro|(apply Yh;clear Yh Y)));all_goals first|apply QS|omega|with_reducible assumption|skip))
  refine qh fun K1 hK1 => ?_
  (refine qc fun Y Yh => ?_; simp [go_sem]; ((repeat' (first|(refine qf ?_;simp [go_sem])|intro _|apply And.intro|(apply Yh;clear Yh Y)));all_goals first|apply QS|omega|with_reducible assumption|skip))
  ((try refine QT ?_); refine qU (.inl ⟨rfl,rfl⟩) ?_; intro args ha; simp [go_sem] at ha; subst ha; refine ⟨_, hp, ?_⟩; rintro _ rfl; refine ⟨rfl, ?_⟩; simp [go_sem, b60]; ((repeat' (first|(refine qf ?_;simp [go_sem, b60])|intro _|apply And.intro|(apply Yh;clear Yh Y)));all_goals first|apply QS|omega|with_reducible assumption|skip))
  (refine qg fun T F hT hF => ?_; simp [go_sem, h60]; refine hT ?_; clear hT hF T F)
  (refine qc fun Y Yh => ?_; simp [go_sem]; ((repeat' (first|(refine qf ?_;simp [go_sem])|intro _|apply And.intro|(apply Yh;clear Yh Y)));all_goals first|apply QS|omega|with_reducible assumption|skip))
  (refine qj ?_; simp [go_sem])
theorem digR_suf (n : Nat) (any : Bool) (s : Bs) : (digR n any s).2.2 <:+ s := by
 induction s generalizing n any with
 | nil => exact List.suffix_refl _
 | cons c r ih =>
  unfold digR
  split
  ·exact (ih _ _).trans (List.suffix_cons _ _)
  ·exact List.suffix_refl _
theorem zT (m : Int) (s : Bs) : (digitsV m s).2.2 <:+ s := by
 unfold digitsV
 split
 ·exact List.tail_suffix s
 ·have := digR_suf 0 false s
  simp only
  split <;> exact this
theorem flagR_suf (f : Fld) (s : Bs) : (flagR f s).2 <:+ s := by
 induction s generalizing f with
 | nil => exact List.suffix_refl _
 | cons c r ih =>
  unfold flagR
  repeat' split
  all_goals first | exact (ih _).trans (List.suffix_cons _ _) | exact List.suffix_refl _
theorem zW {s nm r : Bs} (h : nameV s = some (nm, r)) : r <:+ s := by
 unfold nameV at h
 split at h
 ·cases h; exact List.suffix_refl _
 ·simp only at h
  split at h
  ·cases h; exact List.drop_suffix _ _
  ·cases h
theorem xk (s : Bs) : (precV s).2.2 <:+ s := by
 unfold precV
 split
 ·exact (zT _ _).trans (List.tail_suffix s)
 ·exact List.suffix_refl _
theorem suf_at {s r : Bs} (h : r <:+ s) : s.drop (posV s r) = r ∧ posV s r ≤ s.length := ⟨(List.suffix_iff_eq_drop.1 h).symm, Nat.sub_le _ _⟩
theorem lets_at (c : UInt8) : (0 ≤ idxV lets c) ↔ c ∈ lets := by
 unfold idxV
 by_cases h : c ∈ lets
 ·simp only [h, iff_true]
  rw [if_pos]
  ·omega
  ·rw [List.findIdx_lt_length]; exact ⟨c, h, by simp⟩
 ·simp only [h, iff_false]
  rw [if_neg]
  ·omega
  ·rw [List.findIdx_lt_length]; rintro ⟨x, hx, e⟩; simp at e; exact h (e ▸ hx)
def FieldR (s : Bs) (g : Nat) (q : Option (Fld × Bs)) (ps : List (Nat × Blk)) (r : D) : Prop :=
 match q with
 | some (f, rest) => ps = [(g, .box [dS s, dI (posV s rest)])] ∧ r = .tup [dF f, dB true]
 | none => ∃ (a' : Int) (f' : Fld), ps = [(g, .box [dS s, dI a'])] ∧ r = .tup [dF f', dB false]
theorem field_end (s : Bs) (g : Nat) (s4 : Bs) (w1 p1 : Int) (f1 : Fld) (nm : Bs) (c : UInt8) (j : Int) (hcv : pk s4 = c) (hfn : f1.nm = nm) (hle : posV s s4 ≤ s.length) (hsu : s4 <:+ s) (hli : 0 ≤ j ↔ c ∈ lets) :
  FieldR s g (if ¬c = 0 ∧ c ∈ lets ∧ (w1 = -2 ∨ p1 = -2 → nm = []) then some ({ f1 with wd := w1, pr := p1, lt := c }, s4.tail) else none)
   [(g, .box [dS s, dI (posV s s4 + 1)])] (.tup [dF { f1 with wd := w1, pr := p1, lt := c }, dB (!decide (c = 0) && decide (0 ≤ j) && (!decide (w1 = -2) && !decide (p1 = -2) || f1.nm.isEmpty))]) := by
 have hb : (!decide (c = 0) && decide (0 ≤ j) && (!decide (w1 = -2) && !decide (p1 = -2) || f1.nm.isEmpty)) = decide (¬c = 0 ∧ c ∈ lets ∧ (w1 = -2 ∨ p1 = -2 → nm = [])) := by
  subst hfn
  rw [Bool.eq_iff_iff]
  simp only [Bool.and_eq_true, Bool.or_eq_true, Bool.not_eq_true', decide_eq_true_eq, decide_eq_false_iff_not, List.isEmpty_iff, hli, and_assoc]
  refine and_congr_right fun _ => and_congr_right fun _ => ?_
  by_cases h1 : w1 = -2 <;> by_cases h2 : p1 = -2 <;> simp [h1, h2]
 rw [hb]
 by_cases hC : ¬c = 0 ∧ c ∈ lets ∧ (w1 = -2 ∨ p1 = -2 → nm = [])
 ·rw [if_pos hC, decide_eq_true hC]
  refine ⟨?_, rfl⟩
  have hne : s4 ≠ [] := by rintro rfl; exact hC.1 hcv.symm
  have hpos : 0 < s4.length := List.length_pos_iff.2 hne
  have hl4 := hsu.length_le
  have e : (posV s s4.tail : Int) = posV s s4 + 1 := by simp only [posV, List.length_tail]; omega
  rw [e]
 ·rw [if_neg hC, decide_eq_false hC]
  exact ⟨_, _, rfl, rfl⟩
set_option maxHeartbeats 16000000 in
theorem vK (s : Bs) (a : Nat) (g : Nat) (ha : a ≤ s.length) (hl : s.length ≤ 100000) :
  ACall Tryz.prog 63 [.ptr 900002 g 0] [rdB g s a] [900002] (FieldR s g (fieldV (s.drop a))) := by 
 refine qY Tryz.func63 rfl rfl Tryz.ntmps63 (rs := [.cell 2 81, .tmp 3]) (tys := [81, 4]) rfl rfl (by simp) (by simp [qO]) ?_
 have hN := wI s a g ha hl
 cases hn : nameV (s.drop a) with
 | none =>
  have e1 : nmQ s a = ([], false, a) := by unfold nmQ; rw [hn]
  have e2 : fieldV (s.drop a) = none := by unfold fieldV; rw [hn]
  rw [e1] at hN
  rw [e2]
  unfold FieldR
  (refine qc fun Y Yh => ?_; simp [go_sem]; ((repeat' (first|(refine qf ?_;simp [go_sem])|intro _|apply And.intro|(apply Yh;clear Yh Y)));all_goals first|apply QS|omega|with_reducible assumption|skip))
  (refine qc fun Y Yh => ?_; simp [go_sem]; ((repeat' (first|(refine qf ?_;simp [go_sem])|intro _|apply And.intro|(apply Yh;clear Yh Y)));all_goals first|apply QS|omega|with_reducible assumption|skip))
  refine zf 4 900003 rfl rfl (by decide) fun gf => ?_
  simp only [go_sem]
  (refine qc fun Y Yh => ?_; simp [go_sem]; ((repeat' (first|(refine qf ?_;simp [go_sem])|intro _|apply And.intro|(apply Yh;clear Yh Y)));all_goals first|apply QS|omega|with_reducible assumption|skip))
  refine qh fun K1 hK1 => ?_
  (refine qc fun Y Yh => ?_; simp [go_sem]; ((repeat' (first|(refine qf ?_;simp [go_sem])|intro _|apply And.intro|(apply Yh;clear Yh Y)));all_goals first|apply QS|omega|with_reducible assumption|skip))
  (refine qN [900002] (.inl ⟨rfl,rfl⟩) (by simp [go_sem]) ?_; intro args ha; simp [go_sem] at ha; subst ha; refine ⟨_, _, hN, (by simp [go_sem]), ?_⟩; rintro ps r hps ⟨rfl, rfl⟩; simp [go_sem]; ((repeat' (first|(refine qf ?_;simp [go_sem])|intro _|apply And.intro|(apply Yh;clear Yh Y)));all_goals first|apply QS|omega|with_reducible assumption|skip))
  (refine qc fun Y Yh => ?_; simp [go_sem]; ((repeat' (first|(refine qf ?_;simp [go_sem])|intro _|apply And.intro|(apply Yh;clear Yh Y)));all_goals first|apply QS|omega|with_reducible assumption|skip))
  (refine qg fun T F hT hF => ?_; simp [go_sem]; refine hT ?_; clear hT hF T F)
  (refine qc fun Y Yh => ?_; simp [go_sem]; ((repeat' (first|(refine qf ?_;simp [go_sem])|intro _|apply And.intro|(apply Yh;clear Yh Y)));all_goals first|apply QS|omega|with_reducible assumption|skip))
  (refine qj ?_; simp [go_sem])
  exact ⟨{ fd0 with nm := [] }, by simp [fd0]⟩
 | some x =>
  obtain ⟨nm, s1⟩ := x
  have e1 : nmQ s a = (nm, true, posV s s1) := by unfold nmQ; rw [hn]
  have hs1 := suf_at ((zW hn).trans (List.drop_suffix a s))
  rw [e1] at hN
  have hF := fun gf => vJ s (posV s s1) { fd0 with nm := nm } g gf hs1.2 hl
  rw [hs1.1] at hF
  have hs2 := suf_at (((flagR_suf { fd0 with nm := nm } s1).trans (zW hn)).trans (List.drop_suffix a s))
  have hs2' := (flagR_suf { fd0 with nm := nm } s1).trans ((zW hn).trans (List.drop_suffix a s))
  have ev : fieldV (s.drop a) = (let q := flagR { fd0 with nm := nm } s1
   let w := digitsV (-1) q.2
   if w.2.1 = false then none else
   let p := precV w.2.2
   if p.2.1 = false then none else
   let c := pk p.2.2
   if c ≠ 0 ∧ c ∈ lets ∧ ((w.1 = -2 ∨ p.1 = -2) → nm = []) then some ({ q.1 with wd := w.1, pr := p.1, lt := c }, p.2.2.tail) else none) := by unfold fieldV; rw [hn]
  rw [ev]
  clear ev
  have hfn : (flagR { fd0 with nm := nm } s1).1.nm = nm := by rw [flag_same]
  have hft : (flagR { fd0 with nm := nm } s1).1.tx = [] := by rw [flag_same]; rfl
  have hfp : (flagR { fd0 with nm := nm } s1).1.pr = -1 := by rw [flag_same]; rfl
  generalize flagR { fd0 with nm := nm } s1 = q at *
  obtain ⟨f1, s2⟩ := q
  simp only at hF hs2 hs2' hfn hft hfp ⊢
  have hW := jy s (posV s s2) (-1) g hs2.2 hl (by simp [InR])
  rw [hs2.1] at hW
  have hs3' := (zT (-1) s2).trans hs2'
  have hs3 := suf_at hs3'
  generalize digitsV (-1) s2 = w at *
  obtain ⟨w1, w2, s3⟩ := w
  simp only at hW hs3 hs3' ⊢
  (refine qc fun Y Yh => ?_; simp [go_sem]; ((repeat' (first|(refine qf ?_;simp [go_sem])|intro _|apply And.intro|(apply Yh;clear Yh Y)));all_goals first|apply QS|omega|with_reducible assumption|skip))
  (refine qc fun Y Yh => ?_; simp [go_sem]; ((repeat' (first|(refine qf ?_;simp [go_sem])|intro _|apply And.intro|(apply Yh;clear Yh Y)));all_goals first|apply QS|omega|with_reducible assumption|skip))
  refine zf 4 900003 rfl rfl (by decide) fun gf => ?_
  simp only [go_sem]
  (refine qc fun Y Yh => ?_; simp [go_sem]; ((repeat' (first|(refine qf ?_;simp [go_sem])|intro _|apply And.intro|(apply Yh;clear Yh Y)));all_goals first|apply QS|omega|with_reducible assumption|skip))
  refine qh fun K1 hK1 => ?_
  (refine qc fun Y Yh => ?_; simp [go_sem]; ((repeat' (first|(refine qf ?_;simp [go_sem])|intro _|apply And.intro|(apply Yh;clear Yh Y)));all_goals first|apply QS|omega|with_reducible assumption|skip))
  (refine qN [900002] (.inl ⟨rfl,rfl⟩) (by simp [go_sem]) ?_; intro args ha; simp [go_sem] at ha; subst ha; refine ⟨_, _, hN, (by simp [go_sem]), ?_⟩; rintro ps r hps ⟨rfl, rfl⟩; simp [go_sem]; ((repeat' (first|(refine qf ?_;simp [go_sem])|intro _|apply And.intro|(apply Yh;clear Yh Y)));all_goals first|apply QS|omega|with_reducible assumption|skip))
  (refine qc fun Y Yh => ?_; simp [go_sem]; ((repeat' (first|(refine qf ?_;simp [go_sem])|intro _|apply And.intro|(apply Yh;clear Yh Y)));all_goals first|apply QS|omega|with_reducible assumption|skip))
  (refine qg fun T F hT hF => ?_; simp [go_sem]; refine hF ?_; clear hT hF T F)
  refine qi ?_
  refine hK1 _ ?_; clear hK1
  (refine qc fun Y Yh => ?_; simp [go_sem]; ((repeat' (first|(refine qf ?_;simp [go_sem])|intro _|apply And.intro|(apply Yh;clear Yh Y)));all_goals first|apply QS|omega|with_reducible assumption|skip))
  (refine qN [900002, 900003] (.inl ⟨rfl,rfl⟩) (by simp [go_sem]) ?_; intro args ha; simp [go_sem] at ha; subst ha; refine ⟨_, _, (hF gf), (by simp [go_sem, fd0]), ?_⟩; rintro ps r hps ⟨rfl, rfl⟩; simp [go_sem, fd0]; ((repeat' (first|(refine qf ?_;simp [go_sem, fd0])|intro _|apply And.intro|(apply Yh;clear Yh Y)));all_goals first|apply QS|omega|with_reducible assumption|skip))
  refine qh fun K3 hK3 => ?_
  (refine qc fun Y Yh => ?_; simp [go_sem]; ((repeat' (first|(refine qf ?_;simp [go_sem])|intro _|apply And.intro|(apply Yh;clear Yh Y)));all_goals first|apply QS|omega|with_reducible assumption|skip))
  (refine qN [900002] (.inl ⟨rfl,rfl⟩) (by simp [go_sem]) ?_; intro args ha; simp [go_sem] at ha; subst ha; refine ⟨_, _, hW, (by simp [go_sem]), ?_⟩; rintro ps r hps ⟨rfl, rfl⟩; simp [go_sem]; ((repeat' (first|(refine qf ?_;simp [go_sem])|intro _|apply And.intro|(apply Yh;clear Yh Y)));all_goals first|apply QS|omega|with_reducible assumption|skip))
  (refine qc fun Y Yh => ?_; simp [go_sem]; ((repeat' (first|(refine qf ?_;simp [go_sem])|intro _|apply And.intro|(apply Yh;clear Yh Y)));all_goals first|apply QS|omega|with_reducible assumption|skip))
  cases w2 with
  | false =>
   (refine qg fun T F hT hF => ?_; simp [go_sem]; refine hT ?_; clear hT hF T F)
   (refine qc fun Y Yh => ?_; simp [go_sem]; ((repeat' (first|(refine qf ?_;simp [go_sem])|intro _|apply And.intro|(apply Yh;clear Yh Y)));all_goals first|apply QS|omega|with_reducible assumption|skip))
   (refine qj ?_; simp [go_sem])
   exact ⟨_, { f1 with wd := w1 }, rfl, rfl⟩
  | true =>
   rename_i g2 _ _ _
   (refine qg fun T F hT hF => ?_; simp [go_sem]; refine hF ?_; clear hT hF T F)
   refine qi ?_
   refine hK3 _ ?_; clear hK3
   refine qh fun K5 hK5 => ?_
   have tl5 : ∀ S' p1 s4, precV s3 = (p1, true, s4) → s4 <:+ s → Cov S' ⟨[(0, .ptr 900002 g 0), (2, .ptr 2 g2 0), (4, .ptr 900003 gf 0)], [rdB g s (posV s s4), fdB gf { f1 with wd := w1, pr := p1 }, (2, (g2, .box [dS [], dS [], dB false, dB false, dB false, dB false, dB false, dI 0, dI 0, .v (.int .u8 0)]))]⟩ → K5 S' := fun S' p1 s4 hv hs4 hS => by
    refine hK5 _ ?_; clear hK5
    refine qG hS ?_; clear hS
    have hs4' := suf_at hs4
    have hP := zH s (posV s s4) hl
    rw [hs4'.1] at hP
    have b0 : ((pk s4).toNat = 0) = (pk s4 = 0) := propext ⟨fun q => UInt8.toNat_inj.1 q, fun q => by rw [q]; rfl⟩
    have hI := zM lets (pk s4)
    have hli := lets_at (pk s4)
    generalize hcv : pk s4 = c at *
    generalize idxV lets c = j at *
    (refine qc fun Y Yh => ?_; simp [go_sem]; ((repeat' (first|(refine qf ?_;simp [go_sem])|intro _|apply And.intro|(apply Yh;clear Yh Y)));all_goals first|apply QS|omega|with_reducible assumption|skip))
    ((try refine QT ?_); refine qU (.inl ⟨rfl,rfl⟩) ?_; intro args ha; simp [go_sem] at ha; subst ha; refine ⟨_, hP, ?_⟩; rintro _ rfl; refine ⟨rfl, ?_⟩; simp [go_sem]; ((repeat' (first|(refine qf ?_;simp [go_sem])|intro _|apply And.intro|(apply Yh;clear Yh Y)));all_goals first|apply QS|omega|with_reducible assumption|skip))
    (refine qc fun Y Yh => ?_; simp [go_sem]; ((repeat' (first|(refine qf ?_;simp [go_sem])|intro _|apply And.intro|(apply Yh;clear Yh Y)));all_goals first|apply QS|omega|with_reducible assumption|skip))
    (refine qc fun Y Yh => ?_; simp [go_sem]; ((repeat' (first|(refine qf ?_;simp [go_sem])|intro _|apply And.intro|(apply Yh;clear Yh Y)));all_goals first|apply QS|omega|with_reducible assumption|skip))
    ((refine qX (.qs [1, 0, 2, 3, 4, 5, 6] (.kp 7 (.qs [8, 9, 10, 11, 12, 13] (.nb (.kq 14 (.qs [15, 16, 17, 18] (.one 19 (.qs [20] (.nil)))) 19 (.qs [14, 15, 16, 17, 18, 20] (.nil))))))) (by kernel_rfl) ?_ ?_ ?_ ?_); (kernel_rfl); (exact (by decide +kernel)); (kernel_rfl); intro Y Yh; ((repeat' (first|(refine qf ?_;simp [go_sem, b0])|refine qC ?_|refine jc ?_ ?_|((first|refine qJ fun Y Yh=>?_|refine qR fun Y Yh=>?_);simp [go_sem, b0])|intro _|apply And.intro|(apply Yh;clear Yh Y)));all_goals first|apply QS|omega|with_reducible assumption|skip))
    (refine xw (dI j) (.inl ⟨rfl,rfl⟩) ?_ rfl ?_; (intro hc args ha; simp [go_sem] at ha; subst ha; exact hI); simp [go_sem, b0]; ((repeat' (first|(refine qf ?_;simp [go_sem, b0])|refine qC ?_|refine jc ?_ ?_|((first|refine qJ fun Y Yh=>?_|refine qR fun Y Yh=>?_);simp [go_sem, b0])|intro _|apply And.intro|(apply Yh;clear Yh Y)));all_goals first|apply QS|omega|with_reducible assumption|skip))
    all_goals (refine qj ?_; simp [go_sem, hv, hcv])
    all_goals exact field_end s g s4 w1 p1 f1 nm c j hcv hfn hs4'.2 hs4 hli
   clear hK5
   have b46 : decide (((pk s3).toNat : Int) = 46) = decide (pk s3 = 46) := u8_eqb _ 46 (by decide)
   have hP := zH s (posV s s3) hl
   rw [hs3.1] at hP
   (refine qc fun Y Yh => ?_; simp [go_sem]; ((repeat' (first|(refine qf ?_;simp [go_sem])|intro _|apply And.intro|(apply Yh;clear Yh Y)));all_goals first|apply QS|omega|with_reducible assumption|skip))
   ((try refine QT ?_); refine qU (.inl ⟨rfl,rfl⟩) ?_; intro args ha; simp [go_sem] at ha; subst ha; refine ⟨_, hP, ?_⟩; rintro _ rfl; refine ⟨rfl, ?_⟩; simp [go_sem, b46]; ((repeat' (first|(refine qf ?_;simp [go_sem, b46])|intro _|apply And.intro|(apply Yh;clear Yh Y)));all_goals first|apply QS|omega|with_reducible assumption|skip))
   by_cases h46 : pk s3 = 46
   ·have hlt3 : posV s s3 < s.length := pk_lt (by rw [hs3.1, h46]; decide)
    have htl : s.drop (posV s s3 + 1) = s3.tail := by rw [← List.tail_drop, hs3.1]
    have hP2 := jy s (posV s s3 + 1) 0 g (by omega) hl (by simp [InR])
    rw [htl] at hP2
    have hpv : precV s3 = digitsV 0 s3.tail := by unfold precV; rw [if_pos h46]
    have hs4' := (xk s3).trans hs3'
    have hs4 := suf_at hs4'
    rw [← hpv] at hP2
    generalize hpq : precV s3 = p at *
    obtain ⟨p1, p2, s4⟩ := p
    simp only at hP2 hs4 hs4'
    (refine qg fun T F hT hF => ?_; simp [go_sem, h46]; refine hT ?_; clear hT hF T F)
    (refine qc fun Y Yh => ?_; simp [go_sem]; ((repeat' (first|(refine qf ?_;simp [go_sem])|intro _|apply And.intro|(apply Yh;clear Yh Y)));all_goals first|apply QS|omega|with_reducible assumption|skip))
    (refine qc fun Y Yh => ?_; simp [go_sem]; ((repeat' (first|(refine qf ?_;simp [go_sem])|intro _|apply And.intro|(apply Yh;clear Yh Y)));all_goals first|apply QS|omega|with_reducible assumption|skip))
    (refine qN [900002] (.inl ⟨rfl,rfl⟩) (by simp [go_sem]) ?_; intro args ha; simp [go_sem] at ha; subst ha; refine ⟨_, _, hP2, (by simp [go_sem]), ?_⟩; rintro ps r hps ⟨rfl, rfl⟩; simp [go_sem]; ((repeat' (first|(refine qf ?_;simp [go_sem])|intro _|apply And.intro|(apply Yh;clear Yh Y)));all_goals first|apply QS|omega|with_reducible assumption|skip))
    (refine qc fun Y Yh => ?_; simp [go_sem]; ((repeat' (first|(refine qf ?_;simp [go_sem])|intro _|apply And.intro|(apply Yh;clear Yh Y)));all_goals first|apply QS|omega|with_reducible assumption|skip))
    cases p2 with
    | false =>
     (refine qg fun T F hT hF => ?_; simp [go_sem]; refine hT ?_; clear hT hF T F)
     (refine qc fun Y Yh => ?_; simp [go_sem]; ((repeat' (first|(refine qf ?_;simp [go_sem])|intro _|apply And.intro|(apply Yh;clear Yh Y)));all_goals first|apply QS|omega|with_reducible assumption|skip))
     (refine qj ?_; simp [go_sem])
     exact ⟨_, { f1 with wd := w1, pr := p1 }, rfl, rfl⟩
    | true =>
     (refine qg fun T F hT hF => ?_; simp [go_sem]; refine hF ?_; clear hT hF T F)
     refine qi ?_
     refine tl5 _ p1 s4 rfl hs4' ?_
     (refine ql ?_ ?_ <;> simp [go_sem])
   ·have hpv : precV s3 = (-1, true, s3) := by unfold precV; rw [if_neg h46]
    (refine qg fun T F hT hF => ?_; simp [go_sem, h46]; refine hF ?_; clear hT hF T F)
    refine qi ?_
    refine tl5 _ (-1) s3 hpv hs3' ?_
    (refine ql ?_ ?_ <;> simp [go_sem, hfp])
def ReadR (q : Option (List Fld)) (r : D) : Prop :=
 match q with
 | some L => r = .tup [dFs L, dB true]
 | none => ∃ L, r = .tup [dFs L, dB false]
theorem rf_end {k i : Nat} {s : Bs} {L : List Fld} {a b : Bool} (hi : s.length ≤ i) : readF (k + 1) (s.drop i) L a b = if a && b then none else some L := by
 rw [List.drop_eq_nil_of_le hi, readF, if_pos rfl]
theorem rf_last {k : Nat} {t : Bs} {L : List Fld} {a b : Bool} (h0 : t ≠ []) (h : t.length ≤ t.findIdx (· == 37)) : readF (k + 1) t L a b = if a && b then none else some (L ++ [fdT t]) := by
 rw [readF, if_neg h0]; simp only; rw [if_pos h]
theorem rf_text {k : Nat} {t : Bs} {L : List Fld} {a b : Bool} (h0 : t ≠ []) (h : t.findIdx (· == 37) < t.length) (h1 : 0 < t.findIdx (· == 37)) :
  readF (k + 1) t L a b = readF k (t.drop (t.findIdx (· == 37))) (L ++ [fdT (t.take (t.findIdx (· == 37)))]) a b := by
 rw [readF, if_neg h0]; simp only; rw [if_neg (by omega), if_pos h1]
theorem rf_pct {k : Nat} {t : Bs} {L : List Fld} {a b : Bool} (h0 : t ≠ []) (h1 : t.findIdx (· == 37) = 0) (h2 : ([37, 37] : Bs).isPrefixOf t = true) :
  readF (k + 1) t L a b = readF k (t.drop 2) (L ++ [fdT [37]]) a b ∧ 2 ≤ t.length := by
 have hl : t.length ≠ 0 := by simpa using h0
 match t, h2 with
 | [], h2 => simp at h2
 | [_], h2 => simp at h2
 | x :: y :: r, h2 =>
  simp at h2
  obtain ⟨rfl, rfl⟩ := h2
  refine ⟨?_, by simp⟩
  rw [readF, if_neg h0]; simp only; rw [if_neg (by rw [h1]; simp), if_neg (by rw [h1]; simp), if_pos (by simp)]
theorem rf_fld {k : Nat} {t : Bs} {L : List Fld} {a b : Bool} (h0 : t ≠ []) (h1 : t.findIdx (· == 37) = 0) (h2 : ([37, 37] : Bs).isPrefixOf t = false) :
  readF (k + 1) t L a b = match fieldV t.tail with
   | none => none
   | some (f, r) => readF k r (L ++ [f]) (a || f.nm != []) (b || f.nm == []) := by
 have hl : t.length ≠ 0 := by simpa using h0
 rw [readF, if_neg h0]; simp only; rw [if_neg (by rw [h1]; omega), if_neg (by omega)]
 have hq : ¬ t.tail.head? = some 37 := by
  intro q
  have h37 : t.head? = some 37 := by
   cases t with
   | nil => exact absurd rfl h0
   | cons x r =>
    rw [List.findIdx_cons] at h1
    by_cases hx : (x == 37) = true
    ·simp at hx; simp [hx]
    ·rw [Bool.not_eq_true] at hx; rw [hx] at h1; simp at h1
  cases t with
  | nil => simp at h37
  | cons x r =>
   cases r with
   | nil => simp at q
   | cons y r =>
    simp at h37 q
    subst h37 q
    simp at h2
 rw [if_neg hq]
 rfl
theorem vM {s r : Bs} {f : Fld} (h : fieldV s = some (f, r)) : r <:+ s := by
 unfold fieldV at h
 split at h
 ·cases h
 ·rename_i nm s1 hn
  have h1 := zW hn
  simp only at h
  have h2 := flagR_suf { fd0 with nm := nm } s1
  generalize flagR { fd0 with nm := nm } s1 = q at *
  have h3 := zT (-1) q.2
  generalize digitsV (-1) q.2 = w at *
  have h4 := xk w.2.2
  generalize precV w.2.2 = p at *
  split at h
  ·cases h
  ·split at h
   ·cases h
   ·split at h
    ·cases h
     exact ((List.tail_suffix _).trans h4).trans (h3.trans (h2.trans h1))
    ·cases h
theorem readR_end (L : List Fld) (nd pn : Bool) : ReadR (if (nd && pn) = true then none else some L) (.tup [dFs L, dB (!nd || !pn)]) := by
 cases nd <;> cases pn <;> first | rfl | exact ⟨_, rfl⟩
set_option maxHeartbeats 16000000 in
theorem zL (s : Bs) (hl : s.length ≤ 9223372036854775807) : PCall Tryz.prog 41 [dS s] (ReadR (readV s)) := by 
 refine qB Tryz.func41 rfl rfl Tryz.ntmps41 (rs := [.tmp 2, .tmp 3]) (tys := [77, 4]) rfl rfl (by simp) ?_
 have hlz : decide ((2000 : Int) < s.length) = decide (2000 < s.length) := by rw [decide_eq_decide]; omega
 by_cases hlen : 2000 < s.length
 ·have e : readV s = none := by unfold readV; rw [if_pos hlen]
  rw [e]
  (refine qc fun Y Yh => ?_; simp [go_sem]; ((repeat' (first|(refine qf ?_;simp [go_sem])|intro _|apply And.intro|(apply Yh;clear Yh Y)));all_goals first|apply QS|omega|with_reducible assumption|skip))
  refine qh fun K1 hK1 => ?_
  (refine qc fun Y Yh => ?_; simp [go_sem, ba_size]; ((repeat' (first|(refine qf ?_;simp [go_sem, ba_size])|intro _|apply And.intro|(apply Yh;clear Yh Y)));all_goals first|apply QS|omega|with_reducible assumption|skip))
  (refine qg fun T F hT hF => ?_; simp [go_sem, hlz, hlen]; refine hT ?_; clear hT hF T F)
  (refine qc fun Y Yh => ?_; simp [go_sem]; ((repeat' (first|(refine qf ?_;simp [go_sem])|intro _|apply And.intro|(apply Yh;clear Yh Y)));all_goals first|apply QS|omega|with_reducible assumption|skip))
  (refine qj ?_; simp [go_sem])
  exact ⟨[], rfl⟩
 ·have e : readV s = readF (s.length + 1) s [] false false := by unfold readV; rw [if_neg hlen]
  rw [e]
  (refine qc fun Y Yh => ?_; simp [go_sem]; ((repeat' (first|(refine qf ?_;simp [go_sem])|intro _|apply And.intro|(apply Yh;clear Yh Y)));all_goals first|apply QS|omega|with_reducible assumption|skip))
  refine qh fun K1 hK1 => ?_
  (refine qc fun Y Yh => ?_; simp [go_sem, ba_size]; ((repeat' (first|(refine qf ?_;simp [go_sem, ba_size])|intro _|apply And.intro|(apply Yh;clear Yh Y)));all_goals first|apply QS|omega|with_reducible assumption|skip))
  (refine qg fun T F hT hF => ?_; simp [go_sem, hlz, hlen]; refine hF ?_; clear hT hF T F)
  refine qi ?_
  refine hK1 _ ?_; clear hK1
  (refine qc fun Y Yh => ?_; simp [go_sem]; ((repeat' (first|(refine qf ?_;simp [go_sem])|intro _|apply And.intro|(apply Yh;clear Yh Y)));all_goals first|apply QS|omega|with_reducible assumption|skip))
  refine zA 4 4 81 10 rfl fun go => ?_
  simp only [go_sem]
  (refine qc fun Y Yh => ?_; simp [go_sem]; ((repeat' (first|(refine qf ?_;simp [go_sem])|intro _|apply And.intro|(apply Yh;clear Yh Y)));all_goals first|apply QS|omega|with_reducible assumption|skip))
  refine qh fun K3 hK3 => ?_
  (refine qc fun Y Yh => ?_; simp [go_sem]; ((repeat' (first|(refine qf ?_;simp [go_sem])|intro _|apply And.intro|(apply Yh;clear Yh Y)));all_goals first|apply QS|omega|with_reducible assumption|skip))
  refine zf 7 900002 rfl rfl (by decide) fun g => ?_
  simp only [go_sem]
  refine qo ?_
  generalize hV : readF (s.length + 1) s [] false false = V at *
  refine qM (σ := Nat × List Fld × Bool × Bool × Nat) (fun x => ⟨[(0, dS s), (4, .own 4 x.2.2.2.2), (5, dB x.2.2.1), (6, dB x.2.2.2.1), (7, .ptr 900002 g 0)], [rdB g s x.1, (4, (x.2.2.2.2, .row 81 10 (x.2.1.map cF)))]⟩)
   (fun x => x.1 ≤ s.length ∧ x.2.1.length ≤ x.1 ∧ ∃ k, s.length - x.1 < k ∧ readF k (s.drop x.1) x.2.1 x.2.2.1 x.2.2.2.1 = V) (fun x => s.length - x.1) (0, [], false, false, go) ?_ ?_ ?_
  ·(refine ql ?_ ?_ <;> simp [go_sem])
  ·exact ⟨by simp, by simp, s.length + 1, by simp, hV⟩
  rintro ⟨i, L, nd, pn, go⟩ ⟨hi, hL, k, hk, hx⟩
  simp only at hi hL hk hx ⊢
  obtain ⟨k, rfl⟩ : ∃ k', k = k' + 1 := ⟨k - 1, by omega⟩
  refine qh fun K4 hK4 => ?_
  (refine qc fun Y Yh => ?_; simp [go_sem, ba_size]; ((repeat' (first|(refine qf ?_;simp [go_sem, ba_size])|intro _|apply And.intro|(apply Yh;clear Yh Y)));all_goals first|apply QS|omega|with_reducible assumption|skip))
  by_cases hend : i < s.length
  ·(refine qg fun T F hT hF => ?_; simp [go_sem, hend]; refine hT ?_; clear hT hF T F)
   refine qi ?_
   refine hK4 _ ?_; clear hK4
   refine qo ?_
   have h0 : s.drop i ≠ [] := by intro q; have := congrArg List.length q; simp at this; omega
   have hI := zM (s.drop i) 37
   have hP := zn (s.drop i) [37, 37]
   have hix : idxV (s.drop i) 37 = if (s.drop i).findIdx (· == 37) < (s.drop i).length then (((s.drop i).findIdx (· == 37) : Nat) : Int) else -1 := rfl
   have hdl : (s.drop i).length = s.length - i := List.length_drop
   (refine qc fun Y Yh => ?_; simp [go_sem, ba_size, ba_drop]; ((repeat' (first|(refine qf ?_;simp [go_sem, ba_size, ba_drop])|intro _|apply And.intro|(apply Yh;clear Yh Y)));all_goals first|apply QS|omega|with_reducible assumption|skip))
   ((try refine QT ?_); refine qm (.inl ⟨rfl,rfl⟩) (by simp [go_sem]) ?_; intro args ha; simp [go_sem] at ha; subst ha; refine ⟨_, hI, ?_⟩; rintro _ rfl; simp [go_sem]; ((repeat' (first|(refine qf ?_;simp [go_sem])|intro _|apply And.intro|(apply Yh;clear Yh Y)));all_goals first|apply QS|omega|with_reducible assumption|skip))
   refine qo ?_
   by_cases h1 : (s.drop i).findIdx (· == 37) < (s.drop i).length
   ·rw [if_pos h1] at hix
    by_cases h2 : 0 < (s.drop i).findIdx (· == 37)
    ·have hst := rf_text (k := k) (L := L) (a := nd) (b := pn) h0 h1 h2
     rw [hst] at hx
     generalize (s.drop i).findIdx (· == 37) = n at *
     have hn0 : ¬ (n : Int) < 0 := by omega
     have hcut : ({ data := s.toArray } : ByteArray).extract i ((i : Int) + (n : Int)).toNat = { data := ((s.drop i).take n).toArray } := by rw [show ((i : Int) + (n : Int)).toNat = i + n by omega, ba_cut, List.drop_take, show i + n - i = n by omega]
     (refine qc fun Y Yh => ?_; simp [go_sem, hix]; ((repeat' (first|(refine qf ?_;simp [go_sem, hix])|intro _|apply And.intro|(apply Yh;clear Yh Y)));all_goals first|apply QS|omega|with_reducible assumption|skip))
     (refine qg fun T F hT hF => ?_; simp [go_sem, hn0]; refine hF ?_; clear hT hF T F)
     (refine qc fun Y Yh => ?_; simp [go_sem]; ((repeat' (first|(refine qf ?_;simp [go_sem])|intro _|apply And.intro|(apply Yh;clear Yh Y)));all_goals first|apply QS|omega|with_reducible assumption|skip))
     (refine qg fun T F hT hF => ?_; simp [go_sem, h2]; refine hT ?_; clear hT hF T F)
     ((refine qX (.qs [0, 1, 2, 3, 4, 6, 7, 8, 10, 5, 9, 11, 12, 13] (.one 14 (.one 15 (.qs [16] (.nil))))) (by kernel_rfl) ?_ ?_ ?_ ?_); (kernel_rfl); (exact (by decide +kernel)); (kernel_rfl); intro Y Yh; ((repeat' (first|(refine qf ?_;simp [go_sem, ba_size, hcut])|refine qC ?_|((first|refine qJ fun Y Yh=>?_|refine qR fun Y Yh=>?_);simp [go_sem, ba_size, hcut])|intro _|apply And.intro|(apply Yh;clear Yh Y)));all_goals first|apply QS|omega|with_reducible assumption|skip))
     (refine qx fun Y Yh => ?_; simp [go_sem]; ((repeat' (first|(refine qf ?_;simp [go_sem])|intro _|apply And.intro|(apply Yh;clear Yh Y)));all_goals first|apply QS|omega|with_reducible assumption|skip))
     rename_i gq
     refine ⟨(i + n, L ++ [fdT ((s.drop i).take n)], nd, pn, gq), ?_, ?_, ?_⟩
     ·(refine ql ?_ ?_ <;> simp [go_sem, fdT])
     ·refine ⟨by simp; omega, by simp; omega, k, by simp; omega, ?_⟩
      rw [← hx, List.drop_drop]
     ·simp; omega
    ·have h3 : (s.drop i).findIdx (· == 37) = 0 := by omega
     rw [h3] at hix
     (refine qc fun Y Yh => ?_; simp [go_sem, hix]; ((repeat' (first|(refine qf ?_;simp [go_sem, hix])|intro _|apply And.intro|(apply Yh;clear Yh Y)));all_goals first|apply QS|omega|with_reducible assumption|skip))
     (refine qg fun T F hT hF => ?_; simp [go_sem]; refine hF ?_; clear hT hF T F)
     (refine qc fun Y Yh => ?_; simp [go_sem]; ((repeat' (first|(refine qf ?_;simp [go_sem])|intro _|apply And.intro|(apply Yh;clear Yh Y)));all_goals first|apply QS|omega|with_reducible assumption|skip))
     (refine qg fun T F hT hF => ?_; simp [go_sem]; refine hF ?_; clear hT hF T F)
     (refine qc fun Y Yh => ?_; simp [go_sem, ba_size, ba_drop]; ((repeat' (first|(refine qf ?_;simp [go_sem, ba_size, ba_drop])|intro _|apply And.intro|(apply Yh;clear Yh Y)));all_goals first|apply QS|omega|with_reducible assumption|skip))
     ((try refine QT ?_); refine qm (.inl ⟨rfl,rfl⟩) (by simp [go_sem]) ?_; intro args ha; simp [go_sem] at ha; subst ha; refine ⟨_, hP, ?_⟩; rintro _ rfl; simp [go_sem]; ((repeat' (first|(refine qf ?_;simp [go_sem])|intro _|apply And.intro|(apply Yh;clear Yh Y)));all_goals first|apply QS|omega|with_reducible assumption|skip))
     by_cases hpp : ([37, 37] : Bs).isPrefixOf (s.drop i) = true
     ·obtain ⟨hst, hl2⟩ := rf_pct (k := k) (L := L) (a := nd) (b := pn) h0 h3 hpp
      rw [hst] at hx
      (refine qg fun T F hT hF => ?_; simp [go_sem, hpp]; refine hT ?_; clear hT hF T F)
      (refine qc fun Y Yh => ?_; simp [go_sem]; ((repeat' (first|(refine qf ?_;simp [go_sem])|intro _|apply And.intro|(apply Yh;clear Yh Y)));all_goals first|apply QS|omega|with_reducible assumption|skip))
      (refine qx fun Y Yh => ?_; simp [go_sem]; ((repeat' (first|(refine qf ?_;simp [go_sem])|intro _|apply And.intro|(apply Yh;clear Yh Y)));all_goals first|apply QS|omega|with_reducible assumption|skip))
      rename_i gq
      refine ⟨(i + 2, L ++ [fdT [37]], nd, pn, gq), ?_, ?_, ?_⟩
      ·(refine ql ?_ ?_ <;> simp [go_sem, fdT])
      ·refine ⟨by simp; omega, by simp; omega, k, by simp; omega, ?_⟩
       rw [← hx, List.drop_drop]
      ·simp; omega
     ·rw [Bool.not_eq_true] at hpp
      rw [rf_fld h0 h3 hpp] at hx
      (refine qg fun T F hT hF => ?_; simp [go_sem, hpp]; refine hF ?_; clear hT hF T F)
      have hF := vK s (i + 1) g (by omega) (by omega)
      have htl : (s.drop i).tail = s.drop (i + 1) := by rw [List.tail_drop]
      rw [htl] at hx
      cases hf : fieldV (s.drop (i + 1)) with
      | none =>
       rw [hf] at hx hF
       simp only at hx
       (refine qc fun Y Yh => ?_; simp [go_sem]; ((repeat' (first|(refine qf ?_;simp [go_sem])|intro _|apply And.intro|(apply Yh;clear Yh Y)));all_goals first|apply QS|omega|with_reducible assumption|skip))
       (refine qc fun Y Yh => ?_; simp [go_sem]; ((repeat' (first|(refine qf ?_;simp [go_sem])|intro _|apply And.intro|(apply Yh;clear Yh Y)));all_goals first|apply QS|omega|with_reducible assumption|skip))
       (refine qN [900002] (.inl ⟨rfl,rfl⟩) (by simp [go_sem]) ?_; intro args ha; simp [go_sem] at ha; subst ha; refine ⟨_, _, hF, (by simp [go_sem]), ?_⟩; rintro ps r hps ⟨a', f', rfl, rfl⟩; simp [go_sem]; ((repeat' (first|(refine qf ?_;simp [go_sem])|intro _|apply And.intro|(apply Yh;clear Yh Y)));all_goals first|apply QS|omega|with_reducible assumption|skip))
       refine qh fun K9 hK9 => ?_
       (refine qc fun Y Yh => ?_; simp [go_sem]; ((repeat' (first|(refine qf ?_;simp [go_sem])|intro _|apply And.intro|(apply Yh;clear Yh Y)));all_goals first|apply QS|omega|with_reducible assumption|skip))
       (refine qg fun T F hT hF => ?_; simp [go_sem]; refine hT ?_; clear hT hF T F)
       (refine qc fun Y Yh => ?_; simp [go_sem]; ((repeat' (first|(refine qf ?_;simp [go_sem])|intro _|apply And.intro|(apply Yh;clear Yh Y)));all_goals first|apply QS|omega|with_reducible assumption|skip))
       (refine qj ?_; simp [go_sem])
       rw [← hx]
       exact ⟨[], rfl⟩
      | some x =>
       obtain ⟨f, r⟩ := x
       rw [hf] at hx hF
       simp only at hx
       have hlen' := zJ hf
       have hd1 : (s.drop (i + 1)).length = s.length - (i + 1) := List.length_drop
       have hpv : posV s r = s.length - r.length := rfl
       have hsuf := suf_at ((vM hf).trans (List.drop_suffix (i + 1) s))
       (refine qc fun Y Yh => ?_; simp [go_sem]; ((repeat' (first|(refine qf ?_;simp [go_sem])|intro _|apply And.intro|(apply Yh;clear Yh Y)));all_goals first|apply QS|omega|with_reducible assumption|skip))
       (refine qc fun Y Yh => ?_; simp [go_sem]; ((repeat' (first|(refine qf ?_;simp [go_sem])|intro _|apply And.intro|(apply Yh;clear Yh Y)));all_goals first|apply QS|omega|with_reducible assumption|skip))
       (refine qN [900002] (.inl ⟨rfl,rfl⟩) (by simp [go_sem]) ?_; intro args ha; simp [go_sem] at ha; subst ha; refine ⟨_, _, hF, (by simp [go_sem]), ?_⟩; rintro ps r hps ⟨rfl, rfl⟩; simp [go_sem]; ((repeat' (first|(refine qf ?_;simp [go_sem])|intro _|apply And.intro|(apply Yh;clear Yh Y)));all_goals first|apply QS|omega|with_reducible assumption|skip))
       refine qh fun K9 hK9 => ?_
       (refine qc fun Y Yh => ?_; simp [go_sem]; ((repeat' (first|(refine qf ?_;simp [go_sem])|intro _|apply And.intro|(apply Yh;clear Yh Y)));all_goals first|apply QS|omega|with_reducible assumption|skip))
       (refine qg fun T F hT hF => ?_; simp [go_sem]; refine hF ?_; clear hT hF T F)
       refine qi ?_
       refine hK9 _ ?_; clear hK9
       (refine qc fun Y Yh => ?_; simp [go_sem]; ((repeat' (first|(refine qf ?_;simp [go_sem])|intro _|apply And.intro|(apply Yh;clear Yh Y)));all_goals first|apply QS|omega|with_reducible assumption|skip))
       (refine qc fun Y Yh => ?_; simp [go_sem]; ((repeat' (first|(refine qf ?_;simp [go_sem])|intro _|apply And.intro|(apply Yh;clear Yh Y)));all_goals first|apply QS|omega|with_reducible assumption|skip))
       (refine qx fun Y Yh => ?_; simp [go_sem]; ((repeat' (first|(refine qf ?_;simp [go_sem])|intro _|apply And.intro|(apply Yh;clear Yh Y)));all_goals first|apply QS|omega|with_reducible assumption|skip))
       rename_i gq
       refine ⟨(posV s r, L ++ [f], nd || f.nm != [], pn || f.nm == [], gq), ?_, ?_, ?_⟩
       ·(refine ql ?_ ?_ <;> simp [go_sem])
        all_goals (cases f.nm <;> rfl)
       ·refine ⟨hsuf.2, by simp; omega, k, by simp; omega, ?_⟩
        simp only
        rw [hsuf.1, hx]
       ·simp; omega
   ·rw [if_neg h1] at hix
    rw [rf_last h0 (by omega)] at hx
    (refine qc fun Y Yh => ?_; simp [go_sem, hix]; ((repeat' (first|(refine qf ?_;simp [go_sem, hix])|intro _|apply And.intro|(apply Yh;clear Yh Y)));all_goals first|apply QS|omega|with_reducible assumption|skip))
    (refine qg fun T F hT hF => ?_; simp [go_sem]; refine hT ?_; clear hT hF T F)
    (refine qc fun Y Yh => ?_; simp [go_sem, ba_size, ba_drop]; ((repeat' (first|(refine qf ?_;simp [go_sem, ba_size, ba_drop])|intro _|apply And.intro|(apply Yh;clear Yh Y)));all_goals first|apply QS|omega|with_reducible assumption|skip))
    (refine qj ?_; simp [go_sem])
    rw [← hx]
    have q := readR_end (L ++ [fdT (s.drop i)]) nd pn
    simp only [dFs, List.map_append, List.map_cons, List.map_nil, fdT] at q ⊢
    exact q
  ·rw [rf_end (by omega)] at hx
   (refine qg fun T F hT hF => ?_; simp [go_sem, hend]; refine hF ?_; clear hT hF T F)
   refine qH ?_
   simp only [go_sem]
   refine hK3 _ ?_; clear hK3
   (refine qc fun Y Yh => ?_; simp [go_sem]; ((repeat' (first|(refine qf ?_;simp [go_sem])|intro _|apply And.intro|(apply Yh;clear Yh Y)));all_goals first|apply QS|omega|with_reducible assumption|skip))
   (refine qj ?_; simp [go_sem])
   rw [← hx]
   exact readR_end L nd pn
end Go.Proofs.YtelhdhofnohkcaaGreatDoor
