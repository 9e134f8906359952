/- Part of a proof: see the last text. -/
import Derived.Test.YteekfnhhlcmcgaaGreatDoorH02
import Derived.Test.YteekfnhhlcmcgaaGreatDoorProg
import Derived.Lib.SplitLaws
import Derived.Lib.CountLaws
import Derived.Lib.Join
import Derived.Lib.ItoaNum
import Derived.Lib.Bytealg
import Derived.Lib.Small
import Derived.OrdersHeld
set_option linter.unusedVariables false
set_option linter.unusedSimpArgs false
namespace Go.Proofs.YteekfnhhlcmcgaaGreatDoor
open Go.Eng
@[go_sem] theorem zr25 : zeroOf Tryz.prog 25 = some [.slice none 0 0] := by kernel_rfl
@[go_sem] theorem ty25 : tyOf Tryz.prog 25 = some (true, 1) := by kernel_rfl
@[go_sem] theorem sl26 : zu Tryz.prog 26 = some (43, 2, 32) := by kernel_rfl
@[go_sem] theorem zr43 : zeroOf Tryz.prog 43 = some [.string ⟨#[]⟩, .string ⟨#[]⟩] := by kernel_rfl
@[go_sem] theorem ct25 : qZ Tryz.prog 25 = [some 2] := by kernel_rfl
@[go_sem] theorem zr32 : zeroOf Tryz.prog 32 = some [.slice none 0 0] := by kernel_rfl
@[go_sem] theorem ty32 : tyOf Tryz.prog 32 = some (true, 1) := by kernel_rfl
@[go_sem] theorem ct26 : qZ Tryz.prog 26 = [some 2] := by kernel_rfl
@[go_sem] theorem ct32 : qZ Tryz.prog 32 = [some 2] := by kernel_rfl
@[go_sem] theorem ct38 : qZ Tryz.prog 38 = [some 2] := by kernel_rfl
@[go_sem] theorem sl34 : zu Tryz.prog 34 = some (41, 2, 32) := by kernel_rfl
@[go_sem] theorem zr41 : zeroOf Tryz.prog 41 = some [.string ⟨#[]⟩, .string ⟨#[]⟩] := by kernel_rfl
@[go_sem] theorem fl41_0 : fldOf Tryz.prog 41 0 = some (0, false, 1) := by kernel_rfl
@[go_sem] theorem ty9 : tyOf Tryz.prog 9 = some (false, 1) := by kernel_rfl
@[go_sem] theorem fl43_0 : fldOf Tryz.prog 43 0 = some (0, false, 1) := by kernel_rfl
@[go_sem] theorem fl41_1 : fldOf Tryz.prog 41 1 = some (1, false, 1) := by kernel_rfl
@[go_sem] theorem fl25_0 : fldOf Tryz.prog 25 0 = some (0, false, 1) := by kernel_rfl
@[go_sem] theorem ty23 : tyOf Tryz.prog 23 = some (false, 1) := by kernel_rfl
@[go_sem] theorem sl23 : zu Tryz.prog 23 = some (46, 2, 40) := by kernel_rfl
@[go_sem] theorem zr46 : zeroOf Tryz.prog 46 = some [.string ⟨#[]⟩, .slice none 0 0] := by kernel_rfl
@[go_sem] theorem fl46_0 : fldOf Tryz.prog 46 0 = some (0, false, 1) := by kernel_rfl
@[go_sem] theorem fl46_1 : fldOf Tryz.prog 46 1 = some (1, false, 1) := by kernel_rfl
@[go_sem] theorem ty44 : tyOf Tryz.prog 44 = some (false, 1) := by kernel_rfl
@[go_sem] theorem sl44 : zu Tryz.prog 44 = some (48, 2, 40) := by kernel_rfl
@[go_sem] theorem zr48 : zeroOf Tryz.prog 48 = some [.string ⟨#[]⟩, .slice none 0 0] := by kernel_rfl
@[go_sem] theorem ty48 : tyOf Tryz.prog 48 = some (true, 2) := by kernel_rfl
@[go_sem] theorem fl48_0 : fldOf Tryz.prog 48 0 = some (0, false, 1) := by kernel_rfl
@[go_sem] theorem ty53 : tyOf Tryz.prog 53 = some (true, 3) := by kernel_rfl
@[go_sem] theorem ct53 : qZ Tryz.prog 53 = [some 2, some 1, some 2] := by kernel_rfl
@[go_sem] theorem ty22 : tyOf Tryz.prog 22 = some (false, 1) := by kernel_rfl
@[go_sem] theorem ct61 : qZ Tryz.prog 61 = [some 2, some 1, some 2] := by kernel_rfl
@[go_sem] theorem sl63 : zu Tryz.prog 63 = some (53, 3, 72) := by kernel_rfl
@[go_sem] theorem zr53 : zeroOf Tryz.prog 53 = some [.slice none 0 0, .slice none 0 0, .slice none 0 0] := by kernel_rfl
@[go_sem] theorem sl64 : zu Tryz.prog 64 = some (9, 1, 16) := by kernel_rfl
@[go_sem] theorem zr9 : zeroOf Tryz.prog 9 = some [.string ⟨#[]⟩] := by kernel_rfl
@[go_sem] theorem sl38 : zu Tryz.prog 38 = some (114, 2, 32) := by kernel_rfl
@[go_sem] theorem zr114 : zeroOf Tryz.prog 114 = some [.string ⟨#[]⟩, .string ⟨#[]⟩] := by kernel_rfl
@[go_sem] theorem ty38 : tyOf Tryz.prog 38 = some (false, 1) := by kernel_rfl
@[go_sem] theorem ty3 : tyOf Tryz.prog 3 = some (false, 1) := by kernel_rfl
@[go_sem] theorem bs3_80 : bytesOf Tryz.prog 3 80 = none := by kernel_rfl
@[go_sem] theorem bs80_3 : bytesOf Tryz.prog 80 3 = none := by kernel_rfl
@[go_sem] theorem ct34 : qZ Tryz.prog 34 = [some 2] := by kernel_rfl
@[go_sem] theorem ct58 : qZ Tryz.prog 58 = [some 2] := by kernel_rfl
@[go_sem] theorem ty34 : tyOf Tryz.prog 34 = some (false, 1) := by kernel_rfl
@[go_sem] theorem sl58 : zu Tryz.prog 58 = some (95, 2, 32) := by kernel_rfl
@[go_sem] theorem zr95 : zeroOf Tryz.prog 95 = some [.string ⟨#[]⟩, .string ⟨#[]⟩] := by kernel_rfl
@[go_sem] theorem fl95_0 : fldOf Tryz.prog 95 0 = some (0, false, 1) := by kernel_rfl
@[go_sem] theorem fl95_1 : fldOf Tryz.prog 95 1 = some (1, false, 1) := by kernel_rfl
@[go_sem] theorem bl41 : bldOf Tryz.prog 41 = some ([(0, 1), (1, 1)], [.string ⟨#[]⟩, .string ⟨#[]⟩]) := by kernel_rfl
@[go_sem] theorem fl98_0 : fldOf Tryz.prog 98 0 = some (0, false, 1) := by kernel_rfl
@[go_sem] theorem fl98_4 : fldOf Tryz.prog 98 4 = some (6, false, 1) := by kernel_rfl
@[go_sem] theorem zr61 : zeroOf Tryz.prog 61 = some [.slice none 0 0, .slice none 0 0, .slice none 0 0] := by kernel_rfl
@[go_sem] theorem ty61 : tyOf Tryz.prog 61 = some (true, 3) := by kernel_rfl
@[go_sem] theorem fl98_2 : fldOf Tryz.prog 98 2 = some (2, true, 3) := by kernel_rfl
@[go_sem] theorem fl98_1 : fldOf Tryz.prog 98 1 = some (1, false, 1) := by kernel_rfl
@[go_sem] theorem fl98_3 : fldOf Tryz.prog 98 3 = some (5, false, 1) := by kernel_rfl
@[go_sem] theorem fl53_0 : fldOf Tryz.prog 53 0 = some (0, false, 1) := by kernel_rfl
@[go_sem] theorem bl110 : bldOf Tryz.prog 110 = some ([(0, 1), (1, 1)], [.slice none 0 0, .int .i64 0]) := by kernel_rfl
@[go_sem] theorem bl46 : bldOf Tryz.prog 46 = some ([(0, 1), (1, 1)], [.string ⟨#[]⟩, .slice none 0 0]) := by kernel_rfl
@[go_sem] theorem ty46 : tyOf Tryz.prog 46 = some (true, 2) := by kernel_rfl
@[go_sem] theorem fl110_1 : fldOf Tryz.prog 110 1 = some (1, false, 1) := by kernel_rfl
@[go_sem] theorem sl22 : zu Tryz.prog 22 = some (3, 1, 8) := by kernel_rfl
@[go_sem] theorem zr3 : zeroOf Tryz.prog 3 = some [.int .i64 0] := by kernel_rfl
@[go_sem] theorem bl48 : bldOf Tryz.prog 48 = some ([(0, 1), (1, 1)], [.string ⟨#[]⟩, .slice none 0 0]) := by kernel_rfl
@[go_sem] theorem bl114 : bldOf Tryz.prog 114 = some ([(0, 1), (1, 1)], [.string ⟨#[]⟩, .string ⟨#[]⟩]) := by kernel_rfl
@[go_sem] theorem bl116 : bldOf Tryz.prog 116 = some ([(0, 1), (1, 1)], [.string ⟨#[]⟩, .slice none 0 0]) := by kernel_rfl
@[go_sem] theorem sl117 : zu Tryz.prog 117 = some (116, 2, 40) := by kernel_rfl
@[go_sem] theorem zr116 : zeroOf Tryz.prog 116 = some [.string ⟨#[]⟩, .slice none 0 0] := by kernel_rfl
@[go_sem] theorem bl119 : bldOf Tryz.prog 119 = some ([(0, 1), (1, 1)], [.string ⟨#[]⟩, .slice none 0 0]) := by kernel_rfl
@[go_sem] theorem sl30 : zu Tryz.prog 30 = some (119, 2, 40) := by kernel_rfl
@[go_sem] theorem zr119 : zeroOf Tryz.prog 119 = some [.string ⟨#[]⟩, .slice none 0 0] := by kernel_rfl
@[go_sem] theorem ty41 : tyOf Tryz.prog 41 = some (true, 2) := by kernel_rfl
@[go_sem] theorem ty119 : tyOf Tryz.prog 119 = some (true, 2) := by kernel_rfl
@[go_sem] theorem fl119_1 : fldOf Tryz.prog 119 1 = some (1, false, 1) := by kernel_rfl
@[go_sem] theorem ty117 : tyOf Tryz.prog 117 = some (false, 1) := by kernel_rfl
@[go_sem] theorem fl48_1 : fldOf Tryz.prog 48 1 = some (1, false, 1) := by kernel_rfl
@[go_sem] theorem ty26 : tyOf Tryz.prog 26 = some (false, 1) := by kernel_rfl
@[go_sem] theorem fl32_0 : fldOf Tryz.prog 32 0 = some (0, false, 1) := by kernel_rfl
@[go_sem] theorem ty30 : tyOf Tryz.prog 30 = some (false, 1) := by kernel_rfl
@[go_sem] theorem fl43_1 : fldOf Tryz.prog 43 1 = some (1, false, 1) := by kernel_rfl
@[go_sem] theorem fl53_1 : fldOf Tryz.prog 53 1 = some (1, false, 1) := by kernel_rfl
@[go_sem] theorem ty51 : tyOf Tryz.prog 51 = some (false, 1) := by kernel_rfl
@[go_sem] theorem sl51 : zu Tryz.prog 51 = some (38, 1, 24) := by kernel_rfl
@[go_sem] theorem zr38 : zeroOf Tryz.prog 38 = some [.slice none 0 0] := by kernel_rfl
@[go_sem] theorem fl53_2 : fldOf Tryz.prog 53 2 = some (2, false, 1) := by kernel_rfl
@[go_sem] theorem fl114_0 : fldOf Tryz.prog 114 0 = some (0, false, 1) := by kernel_rfl
@[go_sem] theorem fl114_1 : fldOf Tryz.prog 114 1 = some (1, false, 1) := by kernel_rfl
@[go_sem] theorem bl53 : bldOf Tryz.prog 53 = some ([(0, 1), (1, 1), (2, 1)], [.slice none 0 0, .slice none 0 0, .slice none 0 0]) := by kernel_rfl
@[go_sem] theorem fl61_0 : fldOf Tryz.prog 61 0 = some (0, false, 1) := by kernel_rfl
@[go_sem] theorem ty58 : tyOf Tryz.prog 58 = some (false, 1) := by kernel_rfl
@[go_sem] theorem fl61_1 : fldOf Tryz.prog 61 1 = some (1, false, 1) := by kernel_rfl
@[go_sem] theorem ty59 : tyOf Tryz.prog 59 = some (false, 1) := by kernel_rfl
@[go_sem] theorem sl59 : zu Tryz.prog 59 = some (26, 1, 24) := by kernel_rfl
@[go_sem] theorem zr26 : zeroOf Tryz.prog 26 = some [.slice none 0 0] := by kernel_rfl
@[go_sem] theorem fl61_2 : fldOf Tryz.prog 61 2 = some (2, false, 1) := by kernel_rfl
@[go_sem] theorem bl95 : bldOf Tryz.prog 95 = some ([(0, 1), (1, 1)], [.string ⟨#[]⟩, .string ⟨#[]⟩]) := by kernel_rfl
@[go_sem] theorem mp132 : mapOf Tryz.prog 132 = some (1, 9) := by kernel_rfl
@[go_sem] theorem zv9 : zeroV Tryz.prog 9 = some (.string ⟨#[]⟩) := by kernel_rfl
@[go_sem] theorem ty95 : tyOf Tryz.prog 95 = some (true, 2) := by kernel_rfl
@[go_sem] theorem eq95 : eqDesc Tryz.prog 95 = some [(0, 2), (1, 2)] := by kernel_rfl
@[go_sem] theorem fl119_0 : fldOf Tryz.prog 119 0 = some (0, false, 1) := by kernel_rfl
@[go_sem] theorem ty116 : tyOf Tryz.prog 116 = some (true, 2) := by kernel_rfl
@[go_sem] theorem fl116_0 : fldOf Tryz.prog 116 0 = some (0, false, 1) := by kernel_rfl
@[go_sem] theorem fl116_1 : fldOf Tryz.prog 116 1 = some (1, false, 1) := by kernel_rfl
@[go_sem] theorem fl163_2 : fldOf Tryz.prog 163 2 = some (2, false, 1) := by kernel_rfl
@[go_sem] theorem bl61 : bldOf Tryz.prog 61 = some ([(0, 1), (1, 1), (2, 1)], [.slice none 0 0, .slice none 0 0, .slice none 0 0]) := by kernel_rfl
@[go_sem] theorem ct95 : qZ Tryz.prog 95 = [none, none] := by kernel_rfl
@[go_sem] theorem ct41 : qZ Tryz.prog 41 = [none, none] := by kernel_rfl
@[go_sem] theorem fl110_0 : fldOf Tryz.prog 110 0 = some (0, false, 1) := by kernel_rfl
@[go_sem] theorem bl43 : bldOf Tryz.prog 43 = some ([(0, 1), (1, 1)], [.string ⟨#[]⟩, .string ⟨#[]⟩]) := by kernel_rfl
@[go_sem] theorem bl163 : bldOf Tryz.prog 163 = some ([(0, 1), (1, 1), (2, 1), (3, 1), (4, 1), (5, 1)], [.slice none 0 0, .int .i64 0, .int .i64 0, .bool false, .slice none 0 0, .map none]) := by kernel_rfl
@[go_sem] theorem fl163_3 : fldOf Tryz.prog 163 3 = some (3, false, 1) := by kernel_rfl
@[go_sem] theorem ty4 : tyOf Tryz.prog 4 = some (false, 1) := by kernel_rfl
@[go_sem] theorem fl163_0 : fldOf Tryz.prog 163 0 = some (0, true, 1) := by kernel_rfl
@[go_sem] theorem fl163_5 : fldOf Tryz.prog 163 5 = some (5, false, 1) := by kernel_rfl
@[go_sem] theorem ty132 : tyOf Tryz.prog 132 = some (false, 1) := by kernel_rfl
@[go_sem] theorem ct183 : qZ Tryz.prog 183 = [some 2] := by kernel_rfl
@[go_sem] theorem ty114 : tyOf Tryz.prog 114 = some (true, 2) := by kernel_rfl
@[go_sem] theorem ct114 : qZ Tryz.prog 114 = [none, none] := by kernel_rfl
@[go_sem] theorem bl201 : bldOf Tryz.prog 201 = some ([(0, 1), (1, 3), (4, 1)], [.int .i64 0, .slice none 0 0, .slice none 0 0, .slice none 0 0, .string ⟨#[]⟩]) := by kernel_rfl
@[go_sem] theorem fl201_0 : fldOf Tryz.prog 201 0 = some (0, false, 1) := by kernel_rfl
@[go_sem] theorem fl201_2 : fldOf Tryz.prog 201 2 = some (4, false, 1) := by kernel_rfl
@[go_sem] theorem fl201_1 : fldOf Tryz.prog 201 1 = some (1, true, 3) := by kernel_rfl
@[go_sem] theorem eq114 : eqDesc Tryz.prog 114 = some [(0, 2), (1, 2)] := by kernel_rfl
@[go_sem] theorem ty43 : tyOf Tryz.prog 43 = some (true, 2) := by kernel_rfl
@[go_sem] theorem eq43 : eqDesc Tryz.prog 43 = some [(0, 2), (1, 2)] := by kernel_rfl
@[go_sem] theorem ct119 : qZ Tryz.prog 119 = [none, some 2] := by kernel_rfl
@[go_sem] theorem ct116 : qZ Tryz.prog 116 = [none, some 2] := by kernel_rfl
@[go_sem] theorem mp210 : mapOf Tryz.prog 210 = some (1, 4) := by kernel_rfl
@[go_sem] theorem zv4 : zeroV Tryz.prog 4 = some (.bool false) := by kernel_rfl
@[go_sem] theorem bl213 : bldOf Tryz.prog 213 = some ([(0, 1), (1, 1), (2, 1), (3, 1)], [.slice none 0 0, .slice none 0 0, .int .i64 0, .int .i64 0]) := by kernel_rfl
@[go_sem] theorem fl213_2 : fldOf Tryz.prog 213 2 = some (2, false, 1) := by kernel_rfl
@[go_sem] theorem fl163_1 : fldOf Tryz.prog 163 1 = some (1, false, 1) := by kernel_rfl
@[go_sem] theorem fl163_4 : fldOf Tryz.prog 163 4 = some (4, false, 1) := by kernel_rfl
@[go_sem] theorem zr229 : zeroOf Tryz.prog 229 = some [.string ⟨#[]⟩, .int .i64 0] := by kernel_rfl
@[go_sem] theorem ty229 : tyOf Tryz.prog 229 = some (true, 2) := by kernel_rfl
@[go_sem] theorem fl229_0 : fldOf Tryz.prog 229 0 = some (0, false, 1) := by kernel_rfl
@[go_sem] theorem sl183 : zu Tryz.prog 183 = some (229, 2, 24) := by kernel_rfl
@[go_sem] theorem ct229 : qZ Tryz.prog 229 = [none, none] := by kernel_rfl
@[go_sem] theorem sl188 : zu Tryz.prog 188 = some (5, 1, 1) := by kernel_rfl
@[go_sem] theorem bs9_188 : bytesOf Tryz.prog 9 188 = some 5 := by kernel_rfl
@[go_sem] theorem ty5 : tyOf Tryz.prog 5 = some (false, 1) := by kernel_rfl
@[go_sem] theorem bs5_3 : bytesOf Tryz.prog 5 3 = none := by kernel_rfl
@[go_sem] theorem fl213_0 : fldOf Tryz.prog 213 0 = some (0, true, 1) := by kernel_rfl
@[go_sem] theorem fl213_1 : fldOf Tryz.prog 213 1 = some (1, false, 1) := by kernel_rfl
@[go_sem] theorem fl213_3 : fldOf Tryz.prog 213 3 = some (3, false, 1) := by kernel_rfl
@[go_sem] theorem ct240 : qZ Tryz.prog 240 = [some 2] := by kernel_rfl
@[go_sem] theorem ct48 : qZ Tryz.prog 48 = [none, some 2] := by kernel_rfl
@[go_sem] theorem bl229 : bldOf Tryz.prog 229 = some ([(0, 1), (1, 1)], [.string ⟨#[]⟩, .int .i64 0]) := by kernel_rfl
@[go_sem] theorem fl229_1 : fldOf Tryz.prog 229 1 = some (1, false, 1) := by kernel_rfl
@[go_sem] theorem zr288 : zeroOf Tryz.prog 288 = some [.string ⟨#[]⟩, .int .i64 0] := by kernel_rfl
@[go_sem] theorem ty288 : tyOf Tryz.prog 288 = some (true, 2) := by kernel_rfl
@[go_sem] theorem sl240 : zu Tryz.prog 240 = some (288, 2, 24) := by kernel_rfl
@[go_sem] theorem fl288_0 : fldOf Tryz.prog 288 0 = some (0, false, 1) := by kernel_rfl
@[go_sem] theorem ct284 : qZ Tryz.prog 284 = [some 3] := by kernel_rfl
@[go_sem] theorem fl288_1 : fldOf Tryz.prog 288 1 = some (1, false, 1) := by kernel_rfl
@[go_sem] theorem ct263 : qZ Tryz.prog 263 = [some 2] := by kernel_rfl
@[go_sem] theorem bl304 : bldOf Tryz.prog 304 = some ([(0, 1), (1, 1)], [.string ⟨#[]⟩, .string ⟨#[]⟩]) := by kernel_rfl
@[go_sem] theorem sl263 : zu Tryz.prog 263 = some (304, 2, 32) := by kernel_rfl
@[go_sem] theorem zr304 : zeroOf Tryz.prog 304 = some [.string ⟨#[]⟩, .string ⟨#[]⟩] := by kernel_rfl
@[go_sem] theorem bl321 : bldOf Tryz.prog 321 = some ([(0, 1), (1, 1), (2, 1)], [.string ⟨#[]⟩, .string ⟨#[]⟩, .slice none 0 0]) := by kernel_rfl
@[go_sem] theorem sl284 : zu Tryz.prog 284 = some (321, 3, 56) := by kernel_rfl
@[go_sem] theorem zr321 : zeroOf Tryz.prog 321 = some [.string ⟨#[]⟩, .string ⟨#[]⟩, .slice none 0 0] := by kernel_rfl
@[go_sem] theorem ct288 : qZ Tryz.prog 288 = [none, none] := by kernel_rfl
@[go_sem] theorem bl288 : bldOf Tryz.prog 288 = some ([(0, 1), (1, 1)], [.string ⟨#[]⟩, .int .i64 0]) := by kernel_rfl
@[go_sem] theorem ty321 : tyOf Tryz.prog 321 = some (true, 3) := by kernel_rfl
@[go_sem] theorem ct321 : qZ Tryz.prog 321 = [none, none, some 2] := by kernel_rfl
@[go_sem] theorem fl321_2 : fldOf Tryz.prog 321 2 = some (2, false, 1) := by kernel_rfl
@[go_sem] theorem ty240 : tyOf Tryz.prog 240 = some (false, 1) := by kernel_rfl
@[go_sem] theorem fl321_0 : fldOf Tryz.prog 321 0 = some (0, false, 1) := by kernel_rfl
@[go_sem] theorem fl304_1 : fldOf Tryz.prog 304 1 = some (1, false, 1) := by kernel_rfl
@[go_sem] theorem ty304 : tyOf Tryz.prog 304 = some (true, 2) := by kernel_rfl
@[go_sem] theorem ct304 : qZ Tryz.prog 304 = [none, none] := by kernel_rfl
@[go_sem] theorem fl304_0 : fldOf Tryz.prog 304 0 = some (0, false, 1) := by kernel_rfl
end Go.Proofs.YteekfnhhlcmcgaaGreatDoor
namespace Go.Ver
open Go.Lib
/-! split at a separator of one byte, and of two different bytes -/
def consH (b : UInt8) : List (List UInt8) → List (List UInt8)
 | [] => [[b]]
 | h :: t => (b :: h) :: t
def dots (c : UInt8) : List UInt8 → List (List UInt8)
 | [] => [[]]
 | b :: l => if b = c then [] :: dots c l else consH b (dots c l)
def csv (c d : UInt8) : List UInt8 → List (List UInt8)
 | [] => [[]]
 | b :: l => if b = c ∧ l.head? = some d then [] :: csv c d l.tail else consH b (csv c d l)
termination_by l => l.length
decreasing_by all_goals simp; try omega
theorem consH_ne (b : UInt8) (l : List (List UInt8)) : consH b l ≠ [] := by cases l <;> simp [consH]
theorem dots_ne (c : UInt8) (l : List UInt8) : dots c l ≠ [] := by
 cases l with
 | nil => simp [dots]
 | cons b l =>
  unfold dots; split; · simp
  exact consH_ne _ _
theorem csv_ne (c d : UInt8) (l : List UInt8) : csv c d l ≠ [] := by
 cases l with
 | nil => simp [csv]
 | cons b l =>
  unfold csv; split; · simp
  exact consH_ne _ _
theorem split_miss {s sep : List UInt8} (h : index s sep = -1) : split s sep = [s] := by
 unfold split; rw [count_miss h]; rfl
theorem split_hit {s sep : List UInt8} {i : Nat} (hs : sep ≠ []) (h : index s sep = i) : split s sep = s.take i :: split (s.drop (i + sep.length)) sep := by
 unfold split
 rw [count_hit hs h, Nat.add_comm 1]
 conv => lhs; unfold splitK
 rw [h, if_neg (by simp)]
 simp
theorem split_at {b : UInt8} {l sep : List UInt8} (hs : sep ≠ []) (h : sep.isPrefixOf (b :: l) = true) : split (b :: l) sep = [] :: split ((b :: l).drop sep.length) sep := by
 have e : index (b :: l) sep = (0 : Nat) := by unfold index; rw [if_pos h]; rfl
 rw [split_hit hs e]; simp
theorem split_step {b : UInt8} {l sep : List UInt8} (hs : sep ≠ []) (h : sep.isPrefixOf (b :: l) = false) : split (b :: l) sep = consH b (split l sep) := by
 have e : index (b :: l) sep = if index l sep == -1 then -1 else index l sep + 1 := by
  conv => lhs; unfold index
  simp [h]
 by_cases h1 : index l sep = -1
 ·rw [split_miss h1, split_miss (by rw [e, h1]; rfl)]; rfl
 ·have hge := index_ge l sep
  obtain ⟨i, hi⟩ : ∃ i : Nat, index l sep = i := ⟨(index l sep).toNat, by omega⟩
  have e2 : index (b :: l) sep = ((i + 1 : Nat) : Int) := by rw [e, hi, if_neg (by simp)]; rfl
  rw [split_hit hs e2, split_hit hs hi]
  have : (i + 1 + sep.length) = (i + sep.length) + 1 := by omega
  rw [this]; rfl
theorem split_nil {sep : List UInt8} (hs : sep ≠ []) : split [] sep = [[]] := by
 apply split_miss
 unfold index
 cases sep with
 | nil => exact absurd rfl hs
 | cons => rfl
theorem split_dots (c : UInt8) : ∀ s, split s [c] = dots c s
 | [] => by rw [split_nil (by simp)]; rfl
 | b :: l => by
  unfold dots
  by_cases h : b = c
  ·rw [if_pos h, split_at (by simp) (by simp [h]), ← split_dots c l]; rfl
  ·rw [if_neg h, split_step (by simp) (by rw [Bool.eq_false_iff]; intro q; simp at q; exact h q.symm), split_dots c l]
theorem split_csv (c d : UInt8) (s : List UInt8) : split s [c, d] = csv c d s := by
 match s with
 | [] => rw [split_nil (by simp)]; simp [csv]
 | b :: l =>
  unfold csv
  by_cases h : b = c ∧ l.head? = some d
  ·rw [if_pos h, ← split_csv c d l.tail]
   obtain ⟨h1, h2⟩ := h
   cases l with
   | nil => simp at h2
   | cons x r =>
    simp at h2; subst h1 h2
    rw [split_at (by simp) (by simp)]; rfl
  ·rw [if_neg h, ← split_csv c d l]
   refine split_step (by simp) ?_
   rw [Bool.eq_false_iff]
   intro q
   apply h
   cases l with
   | nil => simp at q
   | cons x r => simp at q; simp [q.1, q.2]
termination_by s.length
decreasing_by all_goals simp <;> omega
/-! a part holds no separator; join and split undo each other -/
theorem dots_one {c : UInt8} : ∀ {p : List UInt8}, c ∉ p → dots c p = [p]
 | [], _ => rfl
 | b :: l, h => by
  simp at h
  unfold dots
  rw [if_neg (fun e => h.1 e.symm), dots_one h.2]; rfl
theorem dots_app {c : UInt8} : ∀ {p : List UInt8} (s : List UInt8), c ∉ p → dots c (p ++ c :: s) = p :: dots c s
 | [], s, _ => by simp [dots]
 | b :: l, s, h => by
  simp at h
  have : (b :: l) ++ c :: s = b :: (l ++ c :: s) := rfl
  rw [this, dots, if_neg (fun e => h.1 e.symm), dots_app s h.2]; rfl
theorem dots_join {c : UInt8} : ∀ (ps : List (List UInt8)), ps ≠ [] → (∀ p ∈ ps, c ∉ p) → dots c (join ps [c]) = ps
 | [], h, _ => absurd rfl h
 | [p], _, h => by rw [join_one, dots_one (h p (by simp))]
 | p :: q :: r, _, h => by
  have ih := dots_join (q :: r) (by simp) (fun x hx => h x (by simp [hx]))
  rw [join_cons] at ih ⊢
  have e : p ++ joinTail [c] (q :: r) = p ++ c :: (q ++ joinTail [c] r) := by simp [joinTail]
  rw [e, dots_app _ (h p (by simp)), ih]
theorem join_dots {c : UInt8} : ∀ (s : List UInt8), join (dots c s) [c] = s
 | [] => by simp [dots, join_one]
 | b :: l => by
  have ih := join_dots (c := c) l
  cases hd : dots c l with
  | nil => exact absurd hd (dots_ne c l)
  | cons x t =>
   rw [hd, join_cons] at ih
   unfold dots
   split
   ·rename_i hb; subst hb
    rw [hd, join_cons]
    simp [joinTail] at ih ⊢; exact ih
   ·rw [hd]
    simp only [consH]
    rw [join_cons, List.cons_append, ih]
end Go.Ver
namespace Go.Wh
/-! digits, the least first -/
def val (B : Int) : List Int → Int
 | [] => 0
 | d :: l => d + B * val B l
/-! without zeros at the top -/
/-! comparing -/
/-! adding -/
/-! taking away -/
/-! the size of a list against its value -/
/-! multiplying, digit by digit, the carry at once -/
/-! multiplying, the carry behind -/
/-! dividing, from the top -/
end Go.Wh
namespace Go.Wh
open Go.Lib
/-! decimal numerals -/
def dgt (c : UInt8) : Nat := c.toNat - 48
def isD (c : UInt8) : Bool := decide (48 ≤ c.toNat) && decide (c.toNat ≤ 57)
def decVal (s : List UInt8) : Nat := s.foldl (fun n c => n * 10 + dgt c) 0
theorem fold_shift : ∀ (s : List UInt8) (a : Nat), s.foldl (fun n c => n * 10 + dgt c) a = a * 10 ^ s.length + decVal s
 | [], a => by simp [decVal]
 | c :: s, a => by
  have h1 := fold_shift s (a * 10 + dgt c)
  have h2 := fold_shift s (0 * 10 + dgt c)
  simp only [decVal, List.foldl_cons, List.length_cons] at h1 h2 ⊢
  rw [h1, h2, Nat.pow_succ]
  grind
theorem decVal_app (a b : List UInt8) : decVal (a ++ b) = decVal a * 10 ^ b.length + decVal b := by
 unfold decVal
 rw [List.foldl_append]
 exact fold_shift b _
theorem decVal_snoc (a : List UInt8) (c : UInt8) : decVal (a ++ [c]) = decVal a * 10 + dgt c := by
 rw [decVal_app]; simp [decVal]
theorem ofNat_dgt {k : Nat} (h : k < 10) : dgt (UInt8.ofNat (48 + k)) = k := by
 have : (UInt8.ofNat (48 + k)).toNat = 48 + k := by simp [UInt8.toNat_ofNat']; omega
 unfold dgt; omega
theorem dgt_back {c : UInt8} (h : isD c = true) : UInt8.ofNat (48 + dgt c) = c := by
 simp [isD] at h
 apply UInt8.toNat_inj.1
 have : (UInt8.ofNat (48 + dgt c)).toNat = 48 + dgt c := by simp [UInt8.toNat_ofNat', dgt]; omega
 rw [this]; unfold dgt; omega
theorem dgt_lt {c : UInt8} (h : isD c = true) : dgt c < 10 := by simp [isD] at h; unfold dgt; omega
theorem isD_ofNat {k : Nat} (h : k < 10) : isD (UInt8.ofNat (48 + k)) = true := by
 have : (UInt8.ofNat (48 + k)).toNat = 48 + k := by simp [UInt8.toNat_ofNat']; omega
 simp [isD, this]; omega
theorem snoc_ind {α : Type} {p : List α → Prop} (h0 : p []) (hs : ∀ t c, p t → p (t ++ [c])) (s : List α) : p s := by
 have : ∀ (r : List α), p r.reverse := by
  intro r
  induction r with
  | nil => exact h0
  | cons c t ih => rw [List.reverse_cons]; exact hs _ _ ih
 have h := this s.reverse
 rwa [List.reverse_reverse] at h
theorem head_app {α : Type} {a b : List α} (h : a ≠ []) : (a ++ b).head? = a.head? := by
 cases a with
 | nil => exact absurd rfl h
 | cons c r => rfl
theorem decVal_lt : ∀ {s : List UInt8}, (∀ c ∈ s, isD c = true) → decVal s < 10 ^ s.length := by
 intro s
 induction s using snoc_ind with
 | h0 => simp [decVal]
 | hs t c ih =>
  intro h
  have h1 := ih (fun x hx => h x (by simp [hx]))
  have h2 := dgt_lt (h c (by simp))
  rw [decVal_snoc, List.length_append, List.length_singleton, Nat.pow_succ]
  omega
theorem dec_dec : ∀ u, decVal (decDigits u) = u := by
 intro u
 induction u using Nat.strongRecOn with
 | _ u ih =>
  rw [decDigits]
  split
  ·rename_i h; simp only [decVal, List.foldl_cons, List.foldl_nil]; rw [ofNat_dgt h]; omega
  ·rename_i h
   rw [decVal_snoc, ih _ (by omega), ofNat_dgt (by omega)]
   omega
theorem decDigits_isD : ∀ u, ∀ c ∈ decDigits u, isD c = true := by
 intro u
 induction u using Nat.strongRecOn with
 | _ u ih =>
  rw [decDigits]
  split
  ·rename_i h; intro c hc; rw [List.mem_singleton] at hc; subst hc; exact isD_ofNat h
  ·rename_i h
   intro c hc
   rw [List.mem_append, List.mem_singleton] at hc
   rcases hc with hc | rfl
   ·exact ih _ (by omega) c hc
   ·exact isD_ofNat (by omega)
theorem decDigits_ne (u : Nat) : decDigits u ≠ [] := by rw [decDigits]; split <;> simp
theorem decDigits_head : ∀ u, u ≠ 0 → (decDigits u).head? ≠ some 48 := by
 intro u
 induction u using Nat.strongRecOn with
 | _ u ih =>
  intro h0
  rw [decDigits]
  split
  ·rename_i h
   simp only [List.head?_cons, ne_eq, Option.some.injEq]
   intro e
   have := congrArg dgt e
   rw [ofNat_dgt h] at this
   have : dgt 48 = 0 := by decide
   omega
  ·rename_i h
   rw [head_app (decDigits_ne _)]
   exact ih _ (by omega) (by omega)
theorem decVal_pos : ∀ {s : List UInt8}, s ≠ [] → s.head? ≠ some 48 → (∀ c ∈ s, isD c = true) → 0 < decVal s
 | [], h, _, _ => absurd rfl h
 | c :: s, _, h, hd => by
  have e : decVal (c :: s) = dgt c * 10 ^ s.length + decVal s := by
   have := fold_shift s (0 * 10 + dgt c)
   simpa [decVal] using this
  rw [e]
  have h1 := hd c (by simp)
  have : dgt c ≠ 0 := fun h0 => h (by
   have := dgt_back h1
   rw [h0] at this
   simp [← this])
  have hp : 0 < 10 ^ s.length := Nat.pos_of_ne_zero (by simp)
  have := Nat.mul_pos (Nat.pos_of_ne_zero this) hp
  omega
theorem dec_back : ∀ {s : List UInt8}, s ≠ [] → (s.head? ≠ some 48 ∨ s = [48]) → (∀ c ∈ s, isD c = true) → decDigits (decVal s) = s := by
 intro s
 induction s using snoc_ind with
 | h0 => intro h; exact absurd rfl h
 | hs t c ih =>
  intro _ hh hd
  have hc := hd c (by simp)
  by_cases ht : t = []
  ·subst ht
   simp only [List.nil_append]
   have e : decVal [c] = dgt c := by simp [decVal]
   rw [e, decDigits, dif_pos (dgt_lt hc), dgt_back hc]
  ·have h48 : t.head? ≠ some 48 := by
    rcases hh with h | h
    ·rwa [head_app ht] at h
    ·exfalso
     have q1 := congrArg List.length h
     have q2 := List.length_pos_iff.2 ht
     rw [List.length_append] at q1
     simp only [List.length_singleton] at q1
     omega
   have hdt : ∀ x ∈ t, isD x = true := fun x hx => hd x (by simp [hx])
   have hpos := decVal_pos ht h48 hdt
   have hlt := dgt_lt hc
   rw [decVal_snoc, decDigits, dif_neg (by omega)]
   rw [show (decVal t * 10 + dgt c) / 10 = decVal t by omega, show (decVal t * 10 + dgt c) % 10 = dgt c by omega, dgt_back hc, ih ht (.inl h48) hdt]
/-! digits with zeros ahead -/
/-! numbers as strings -/
def body (a : List UInt8) : List UInt8 := if a.head? = some 45 then a.tail else a
end Go.Wh
namespace Go.Ver
open Go.Lib Go.Wh
/-! segments -/
abbrev Seg := List UInt8 × Int
abbrev z0s : Seg := ([], 0)
def isL (c : UInt8) : Bool := decide (97 ≤ c.toNat) && decide (c.toNat ≤ 122)
def segV (s : List UInt8) : Option Seg :=
 if s = [] ∨ 10 < s.length then none
 else if s.all isL then some (s, 0)
 else if s.all isD && (decide (s.head? ≠ some 48) || decide (s = [48])) && decide (decVal s ≤ 1000000000) then some ([], (decVal s : Int))
 else none
def segT (x : Seg) : List UInt8 := if x.1 ≠ [] then x.1 else itoa x.2
def SegOk (x : Seg) : Prop := (x.1 ≠ [] ∧ x.1.length ≤ 10 ∧ x.1.all isL = true ∧ x.2 = 0) ∨ (x.1 = [] ∧ 0 ≤ x.2 ∧ x.2 ≤ 1000000000)
theorem isL_D {c : UInt8} (h : isD c = true) : isL c = false := by
 simp [isD] at h; simp [isL]; omega
theorem JU {s : List UInt8} {x : Seg} (h : segV s = some x) : SegOk x ∧ segT x = s := by
 unfold segV at h
 split at h
 ·simp at h
 ·rename_i h0
  split at h
  ·rename_i h1
   simp at h; subst h
   exact ⟨.inl ⟨fun e => h0 (.inl e), by simp only; omega, h1, rfl⟩, by simp [segT]; exact fun e => absurd e (fun e => h0 (.inl e))⟩
  ·split at h
   ·rename_i h2
    simp only [Bool.and_eq_true, Bool.or_eq_true, decide_eq_true_eq] at h2
    simp at h; subst h
    refine ⟨.inr ⟨rfl, by omega, by simp only; omega⟩, ?_⟩
    simp only [segT, ne_eq, not_true_eq_false, if_false]
    unfold itoa
    rw [if_neg (by omega), Int.toNat_natCast]
    exact dec_back (fun e => h0 (.inl e)) h2.1.2 (by simpa using h2.1.1)
   ·simp at h
theorem dec_lenK : ∀ (k n : Nat), n < 10 ^ (k + 1) → (decDigits n).length ≤ k + 1
 | 0, n, h => by
  rw [decDigits, dif_pos (by simpa using h)]; simp
 | k + 1, n, h => by
  rw [decDigits]
  split
  ·simp
  ·have := dec_lenK k (n / 10) (by rw [Nat.pow_succ] at h; omega)
   simp; omega
theorem dec_len {n : Nat} (h : n < 10000000000) : (decDigits n).length ≤ 10 := dec_lenK 9 n (by simpa using h)
theorem ZV {x : Seg} (h : SegOk x) : segV (segT x) = some x := by
 obtain ⟨w, n⟩ := x
 rcases h with ⟨h1, h2, h3, h4⟩ | ⟨h1, h2, h3⟩
 ·simp only at h1 h2 h3 h4
  subst h4
  simp only [segT, ne_eq, h1, not_false_eq_true, if_true]
  unfold segV
  rw [if_neg (by simp [h1]; exact h2), if_pos h3]
 ·simp only at h1 h2 h3
  subst h1
  obtain ⟨k, rfl⟩ : ∃ k : Nat, n = k := ⟨n.toNat, by omega⟩
  simp only [segT, ne_eq, not_true_eq_false, if_false]
  have e : itoa (k : Int) = decDigits k := by unfold itoa; rw [if_neg (by omega), Int.toNat_natCast]
  rw [e]
  have hne := decDigits_ne k
  have hD := decDigits_isD k
  unfold segV
  have hl := dec_len (n := k) (by omega)
  rw [if_neg (by simp [hne]; exact hl)]
  have hL : (decDigits k).all isL = false := by
   cases hd : decDigits k with
   | nil => exact absurd hd hne
   | cons c r => simp [isL_D (hD c (by rw [hd]; simp))]
  rw [if_neg (by simp [hL]), if_pos]
  ·rw [dec_dec]
  ·simp only [Bool.and_eq_true, Bool.or_eq_true, decide_eq_true_eq]
   refine ⟨⟨by simpa using hD, ?_⟩, by rw [dec_dec]; omega⟩
   by_cases h0 : k = 0
   ·subst h0; right; rw [decDigits]; rfl
   ·exact .inl (decDigits_head k h0)
/-! versions -/
def segsV : List (List UInt8) → Option (List Seg)
 | [] => some []
 | p :: r => match segV p, segsV r with
  | some x, some l => some (x :: l)
  | _, _ => none
def readV (v : List UInt8) : Option (List Seg) :=
 if 60 < v.length then none else match segsV (dots 46 v) with
  | some l => if l.length ≤ 8 ∧ l.head?.map (·.1) = some [] then some l else none
  | none => none
def textV (l : List Seg) : List UInt8 := join (l.map segT) [46]
def VOk (l : List Seg) : Prop := l.length ≤ 8 ∧ l.head?.map (·.1) = some [] ∧ ∀ x ∈ l, SegOk x
theorem VOk.ne {l : List Seg} (h : VOk l) : l ≠ [] := by intro e; subst e; simp [VOk] at h
theorem xy : ∀ {ps : List (List UInt8)} {l : List Seg}, segsV ps = some l → l.map segT = ps ∧ ∀ x ∈ l, SegOk x
 | [], l, h => by simp [segsV] at h; subst h; simp
 | p :: r, l, h => by
  unfold segsV at h
  split at h
  ·rename_i x m hx hm
   simp at h; subst h
   obtain ⟨h1, h2⟩ := xy hm
   obtain ⟨h3, h4⟩ := JU hx
   refine ⟨by simp [h1, h4], fun y hy => ?_⟩
   rcases List.mem_cons.1 hy with rfl | hy
   ·exact h3
   ·exact h2 y hy
  ·simp at h
theorem wJ : ∀ {l : List Seg}, (∀ x ∈ l, SegOk x) → segsV (l.map segT) = some l
 | [], _ => rfl
 | x :: l, h => by
  simp only [List.map_cons, segsV]
  rw [ZV (h x (by simp)), wJ (fun y hy => h y (by simp [hy]))]
theorem jQ {v : List UInt8} {l : List Seg} (h : readV v = some l) : VOk l ∧ textV l = v ∧ v.length ≤ 60 := by
 unfold readV at h
 split at h
 ·simp at h
 ·split at h
  ·rename_i hl m hm
   split at h
   ·rename_i h1
    simp at h; subst h
    obtain ⟨h2, h3⟩ := xy hm
    refine ⟨⟨h1.1, h1.2, h3⟩, ?_, by omega⟩
    unfold textV
    rw [h2, join_dots]
   ·simp at h
  ·simp at h
theorem segT_no {x : Seg} (h : SegOk x) : 46 ∉ segT x := by
 rcases h with ⟨h1, h2, h3, h4⟩ | ⟨h1, h2, h3⟩
 ·simp only [segT, ne_eq, h1, not_false_eq_true, if_true]
  intro hm
  have := List.all_eq_true.1 h3 46 hm
  revert this; decide
 ·simp only [segT, h1, ne_eq, not_true_eq_false, if_false]
  unfold itoa
  rw [if_neg (by omega)]
  intro hm
  have := decDigits_isD _ 46 hm
  revert this; decide
theorem dots_text {l : List Seg} (hne : l ≠ []) (h : ∀ x ∈ l, SegOk x) : dots 46 (textV l) = l.map segT := by
 unfold textV
 exact dots_join _ (by simpa using hne) (by intro p hp; obtain ⟨x, hx, rfl⟩ := List.mem_map.1 hp; exact segT_no (h x hx))
theorem xq {l : List Seg} (h : VOk l) (hl : (textV l).length ≤ 60) : readV (textV l) = some l := by
 unfold readV
 rw [if_neg (by omega), dots_text h.ne h.2.2, wJ h.2.2]
 simp only
 rw [if_pos ⟨h.1, h.2.1⟩]
/-! the order -/
def seg2 (x y : Seg) : Int :=
 if x.1 ≠ [] ∧ y.1 = [] then -1 else if x.1 = [] ∧ y.1 ≠ [] then 1
 else if compareBytes x.1 y.1 ≠ 0 then compareBytes x.1 y.1 else compareInt x.2 y.2
def cmpN : Nat → List Seg → List Seg → Int
 | 0, _, _ => 0
 | n + 1, a, b => if seg2 (a.headD z0s) (b.headD z0s) ≠ 0 then seg2 (a.headD z0s) (b.headD z0s) else cmpN n a.tail b.tail
def cmpV (a b : List Seg) : Int := cmpN (max a.length b.length) a b
theorem cb_zero : ∀ {a b : List UInt8}, compareBytes a b = 0 ↔ a = b
 | [], [] => by simp [compareBytes]
 | [], _ :: _ => by simp [compareBytes]
 | _ :: _, [] => by simp [compareBytes]
 | x :: a, y :: b => by
  unfold compareBytes
  split
  ·rename_i h; simp; intro e; subst e; exact absurd h (by simp)
  ·split
   ·rename_i h; simp; intro e; subst e; exact absurd h (by simp)
   ·rename_i h1 h2
    have e : x = y := by
     rw [UInt8.lt_iff_toNat_lt] at h1 h2; exact UInt8.toNat_inj.1 (by omega)
    rw [cb_zero]; simp [e]
theorem cb_neg : ∀ (a b : List UInt8), compareBytes a b = -compareBytes b a
 | [], [] => rfl
 | [], _ :: _ => rfl
 | _ :: _, [] => rfl
 | x :: a, y :: b => by
  unfold compareBytes
  by_cases h1 : x < y
  ·have h2 : ¬ y < x := by rw [UInt8.lt_iff_toNat_lt] at *; omega
   rw [if_pos h1, if_neg h2, if_pos h1]
  ·by_cases h2 : y < x
   ·rw [if_neg h1, if_pos h2, if_pos h2]; rfl
   ·rw [if_neg h1, if_neg h2, if_neg h2, if_neg h1, cb_neg a b]
theorem cb_val : ∀ (a b : List UInt8), compareBytes a b = -1 ∨ compareBytes a b = 0 ∨ compareBytes a b = 1
 | [], [] => .inr (.inl rfl)
 | [], _ :: _ => .inl rfl
 | _ :: _, [] => .inr (.inr rfl)
 | x :: a, y :: b => by
  unfold compareBytes
  split
  ·simp
  ·split
   ·simp
   ·exact cb_val a b
theorem cb_trans : ∀ {a b c : List UInt8}, compareBytes a b ≤ 0 → compareBytes b c ≤ 0 → compareBytes a c ≤ 0
 | [], _, [], _, _ => by simp [compareBytes]
 | [], _, _ :: _, _, _ => by simp [compareBytes]
 | _ :: _, [], _, h, _ => by simp [compareBytes] at h
 | _ :: _, _ :: _, [], _, h => by simp [compareBytes] at h
 | x :: a, y :: b, z :: c, h1, h2 => by
  unfold compareBytes at *
  simp only [UInt8.lt_iff_toNat_lt] at *
  split at h1
  ·split
   ·simp
   ·split at h2
    ·omega
    ·split at h2
     ·simp at h2
     ·omega
  ·split at h1
   ·simp at h1
   ·split at h2
    ·rw [if_pos (by omega)]; simp
    ·split at h2
     ·simp at h2
     ·rw [if_neg (by omega), if_neg (by omega)]
      exact cb_trans h1 h2
theorem ci_zero {x y : Int} : compareInt x y = 0 ↔ x = y := by unfold compareInt; split <;> (try split) <;> omega
theorem ci_neg (x y : Int) : compareInt x y = -compareInt y x := by unfold compareInt; repeat' split <;> omega
theorem ci_trans {x y z : Int} (h1 : compareInt x y ≤ 0) (h2 : compareInt y z ≤ 0) : compareInt x z ≤ 0 := by
 unfold compareInt at *; repeat' split at * <;> omega
theorem seg2_zero {x y : Seg} : seg2 x y = 0 ↔ x = y := by
 obtain ⟨a, m⟩ := x; obtain ⟨b, n⟩ := y
 unfold seg2
 simp only
 split
 ·rename_i h; simp; intro e; rw [e] at h; exact absurd h.2 h.1
 ·split
  ·rename_i h; simp; intro e; rw [e] at h; exact absurd h.1 h.2
  ·split
   ·rename_i h; rw [cb_zero]; rw [Ne, cb_zero] at h; simp [h]
   ·rename_i h; rw [ci_zero]; simp only [ne_eq, Decidable.not_not, cb_zero] at h; simp [h]
theorem seg2_neg (x y : Seg) : seg2 x y = -seg2 y x := by
 obtain ⟨a, m⟩ := x; obtain ⟨b, n⟩ := y
 unfold seg2
 simp only
 by_cases ha : a = [] <;> by_cases hb : b = [] <;> simp [ha, hb]
 ·simp [compareBytes]; exact ci_neg m n
 ·rw [cb_neg a b, ci_neg m n]
  by_cases h : compareBytes b a = 0
  ·simp [h]
  ·rw [if_neg (by omega), if_neg h]
theorem seg2_trans {x y z : Seg} (h1 : seg2 x y ≤ 0) (h2 : seg2 y z ≤ 0) : seg2 x z ≤ 0 := by
 obtain ⟨a, m⟩ := x; obtain ⟨b, n⟩ := y; obtain ⟨c, k⟩ := z
 unfold seg2 at *
 simp only at *
 by_cases ha : a = [] <;> by_cases hb : b = [] <;> by_cases hc : c = [] <;> simp [ha, hb, hc, compareBytes] at *
 ·exact ci_trans h1 h2
 ·by_cases e1 : compareBytes a b = 0
  ·rw [cb_zero] at e1; subst e1
   have e : compareBytes a a = 0 := cb_zero.2 rfl
   rw [if_pos e] at h1
   by_cases e2 : compareBytes a c = 0
   ·rw [if_pos e2] at h2 ⊢; exact ci_trans h1 h2
   ·rw [if_neg e2] at h2 ⊢; exact h2
  ·rw [if_neg e1] at h1
   by_cases e2 : compareBytes b c = 0
   ·rw [cb_zero] at e2; subst e2; rw [if_neg e1]; exact h1
   ·rw [if_neg e2] at h2
    have := cb_trans h1 h2
    by_cases e3 : compareBytes a c = 0
    ·rw [cb_zero] at e3; subst e3
     have := cb_neg a b
     omega
    ·rw [if_neg e3]; exact this
def atV (a : List Seg) (i : Nat) : Seg := a[i]?.getD z0s
theorem jD (a : List Seg) : atV a 0 = a.headD z0s := by cases a <;> rfl
theorem jE (a : List Seg) (i : Nat) : atV a (i + 1) = atV a.tail i := by cases a <;> simp [atV]
theorem cmpN_zero : ∀ {n : Nat} {a b : List Seg}, cmpN n a b = 0 ↔ ∀ i, i < n → atV a i = atV b i
 | 0, _, _ => by simp [cmpN]
 | n + 1, a, b => by
  unfold cmpN
  split
  ·rename_i h
   constructor
   ·exact fun e => absurd e h
   ·intro e
    have := e 0 (by omega)
    rw [jD, jD] at this
    exact seg2_zero.2 this
  ·rename_i h
   simp only [ne_eq, Decidable.not_not, seg2_zero] at h
   rw [cmpN_zero]
   constructor
   ·intro e i hi
    cases i with
    | zero => rw [jD, jD]; exact h
    | succ i => rw [jE, jE]; exact e i (by omega)
   ·intro e i hi
    have := e (i + 1) (by omega)
    rwa [jE, jE] at this
theorem cmpN_neg : ∀ (n : Nat) (a b : List Seg), cmpN n a b = -cmpN n b a
 | 0, _, _ => rfl
 | n + 1, a, b => by
  unfold cmpN
  have h := seg2_neg (a.headD z0s) (b.headD z0s)
  by_cases e : seg2 (b.headD z0s) (a.headD z0s) = 0
  ·rw [if_neg (by omega), if_neg (by omega), cmpN_neg n]
  ·rw [if_pos (by omega), if_pos (by omega)]; exact h
theorem cmpN_trans : ∀ {n : Nat} {a b c : List Seg}, cmpN n a b ≤ 0 → cmpN n b c ≤ 0 → cmpN n a c ≤ 0
 | 0, _, _, _, _, _ => by simp [cmpN]
 | n + 1, a, b, c, h1, h2 => by
  unfold cmpN at *
  generalize a.headD z0s = x at *
  generalize b.headD z0s = y at *
  generalize c.headD z0s = z at *
  by_cases e1 : seg2 x y = 0
  ·rw [if_neg (by omega)] at h1
   rw [seg2_zero] at e1; subst e1
   by_cases e2 : seg2 x z = 0
   ·rw [if_neg (by omega)] at h2 ⊢; exact cmpN_trans h1 h2
   ·rw [if_pos (by omega)] at h2 ⊢; exact h2
  ·rw [if_pos (by omega)] at h1
   by_cases e2 : seg2 y z = 0
   ·rw [seg2_zero] at e2; subst e2; rw [if_pos (by omega)]; exact h1
   ·rw [if_pos (by omega)] at h2
    have := seg2_trans h1 h2
    by_cases e3 : seg2 x z = 0
    ·rw [seg2_zero] at e3; subst e3
     have := seg2_neg x y
     omega
    ·rw [if_pos (by omega)]; exact this
theorem cmpN_eq_right {n : Nat} {a b c : List Seg} (h : cmpN n b c = 0) : cmpN n a b = cmpN n a c := by
 have h' := cmpN_zero.1 h
 clear h
 induction n generalizing a b c with
 | zero => rfl
 | succ n ih =>
  unfold cmpN
  have h0 := h' 0 (by omega)
  rw [jD, jD] at h0
  rw [h0, ih (a := a.tail) (b := b.tail) (c := c.tail) (fun i hi => by have := h' (i + 1) (by omega); rwa [jE, jE] at this)]
theorem cmpN_nil : ∀ n, cmpN n [] [] = 0
 | 0 => rfl
 | n + 1 => by unfold cmpN; simp [seg2_zero.2, cmpN_nil n]
theorem cmpN_more : ∀ (n m : Nat) (a b : List Seg), a.length ≤ n → b.length ≤ n → n ≤ m → cmpN m a b = cmpN n a b
 | 0, m, a, b, ha, hb, _ => by
  cases a with
  | nil => cases b with
   | nil => rw [cmpN_nil, cmpN_nil]
   | cons => simp at hb
  | cons => simp at ha
 | n + 1, 0, _, _, _, _, h => absurd h (by omega)
 | n + 1, m + 1, a, b, ha, hb, h => by
  unfold cmpN
  rw [cmpN_more n m a.tail b.tail (by simp; omega) (by simp; omega) (by omega)]
theorem xI {n : Nat} {a b : List Seg} (ha : a.length ≤ n) (hb : b.length ≤ n) : cmpV a b = cmpN n a b :=
 (cmpN_more (max a.length b.length) n a b (by omega) (by omega) (by omega)).symm
theorem zS (a b : List Seg) : cmpV a b = -cmpV b a := by
 rw [xI (n := a.length + b.length) (by omega) (by omega), xI (n := a.length + b.length) (a := b) (by omega) (by omega)]; exact cmpN_neg _ _ _
theorem vP {a b c : List Seg} (h1 : cmpV a b ≤ 0) (h2 : cmpV b c ≤ 0) : cmpV a c ≤ 0 := by
 rw [xI (n := a.length + b.length + c.length) (by omega) (by omega)] at *
 exact cmpN_trans h1 h2
theorem ZA {a b c : List Seg} (h : cmpV b c = 0) : cmpV a b = cmpV a c := by
 rw [xI (n := a.length + b.length + c.length) (by omega) (by omega)] at *
 rw [xI (n := a.length + b.length + c.length) (by omega) (by omega)]
 exact cmpN_eq_right h
theorem Jg {a b c : List Seg} (h : cmpV b c = 0) : cmpV b a = cmpV c a := by
 rw [zS b a, zS c a, ZA h]
theorem Za {a b c : List Seg} (h1 : cmpV a b < 0) (h2 : cmpV b c ≤ 0) : cmpV a c < 0 := by
 have h := vP (by omega : cmpV a b ≤ 0) h2
 by_cases e : cmpV a c = 0
 ·have := Jg (a := b) e
  have := zS c b
  omega
 ·omega
/-! canon -/
theorem VOk.take {l : List Seg} (h : VOk l) {k : Nat} (hk : 1 ≤ k) : VOk (l.take k) := by
 refine ⟨by have := h.1; simp; omega, ?_, fun x hx => h.2.2 x (List.mem_of_mem_take hx)⟩
 have h2 := h.2.1
 cases l with
 | nil => simp at h2
 | cons x r =>
  obtain ⟨j, rfl⟩ : ∃ j, k = j + 1 := ⟨k - 1, by omega⟩
  simpa using h2
theorem at_past {a : List Seg} {i : Nat} (h : a.length ≤ i) : atV a i = z0s := by unfold atV; rw [List.getElem?_eq_none h]; rfl
/-! words -/
def preV (l : List Seg) : Bool := l.any fun s => decide (s.1 ≠ [])
def wordsV (l : List Seg) : Nat := l.findIdx fun s => decide (s.1 ≠ [])
theorem jY (l : List Seg) : decide (wordsV l < l.length) = preV l := by
 unfold wordsV preV
 rw [Bool.eq_iff_iff]
 simp [List.findIdx_lt_length]
/-! lengths -/
/-! bump -/
def bumpN (l : List Seg) : Nat := if 1 < wordsV l then wordsV l - 1 else wordsV l
def bumpV (l : List Seg) : List Seg := (l.take (bumpN l)).set (bumpN l - 1) ([], (atV l (bumpN l - 1)).2 + 1)
theorem zF (l : List Seg) : wordsV l ≤ l.length := List.findIdx_le_length
theorem xm {l : List Seg} (h : VOk l) : 1 ≤ wordsV l := by
 have h2 := h.2.1
 cases l with
 | nil => simp at h2
 | cons x r => simp at h2; unfold wordsV; rw [List.findIdx_cons]; simp [h2]
theorem words_before {l : List Seg} {i : Nat} (h : i < wordsV l) : (atV l i).1 = [] := by
 have hl := zF l
 have := List.not_of_lt_findIdx h
 unfold atV; rw [List.getElem?_eq_getElem (by omega)]
 simpa using this
theorem bumpN_pos {l : List Seg} (h : VOk l) : 1 ≤ bumpN l := by have := xm h; unfold bumpN; split <;> omega
theorem bumpN_le (l : List Seg) : bumpN l ≤ wordsV l := by unfold bumpN; split <;> omega
theorem jC {l : List Seg} : (bumpV l).length = bumpN l := by
 have := bumpN_le l; have := zF l
 unfold bumpV; simp; omega
theorem JH {l : List Seg} (h : VOk l) (i : Nat) : atV (bumpV l) i = if i + 1 < bumpN l then atV l i else if i + 1 = bumpN l then ([], (atV l i).2 + 1) else z0s := by
 have h1 := bumpN_pos h; have h2 := bumpN_le l; have h3 := zF l
 unfold bumpV
 unfold atV
 rw [List.getElem?_set]
 by_cases e : i + 1 = bumpN l
 ·have : bumpN l - 1 = i := by omega
  rw [this]
  rw [if_pos rfl, if_pos (by simp; omega), if_neg (by omega), if_pos e]; rfl
 ·rw [if_neg (by omega), List.getElem?_take]
  by_cases e2 : i + 1 < bumpN l
  ·rw [if_pos (by omega), if_pos e2]
  ·rw [if_neg (by omega), if_neg e2, if_neg e]; rfl
theorem Jm {l : List Seg} (h : VOk l) {x : Seg} (hx : x ∈ bumpV l) : x.1 = [] ∧ ∃ y ∈ l, x.2 = y.2 ∨ x.2 = y.2 + 1 := by
 obtain ⟨i, hi, rfl⟩ := List.getElem_of_mem hx
 have h1 := bumpN_pos h; have h2 := bumpN_le l; have h3 := zF l
 rw [jC] at hi
 have e : (bumpV l)[i]'(by rw [jC]; exact hi) = atV (bumpV l) i := by unfold atV; rw [List.getElem?_eq_getElem (by rw [jC]; exact hi)]; rfl
 have hm : atV l i ∈ l := by unfold atV; rw [List.getElem?_eq_getElem (by omega)]; exact List.getElem_mem _
 rw [e, JH h]
 have hw := words_before (l := l) (i := i) (by omega)
 split
 ·exact ⟨hw, _, hm, .inl rfl⟩
 ·rw [if_pos (by omega)]; exact ⟨rfl, _, hm, .inr rfl⟩
/-! requirements: conditions with ', ' between; each an operator, a blank and a version -/
abbrev Cnd := List UInt8 × List Seg
def opsV : List (List UInt8) := [[61], [33, 61], [62], [60], [62, 61], [60, 61], [126, 62]]
def cutS : List UInt8 → Option (List UInt8 × List UInt8)
 | [] => none
 | b :: l => if b = 32 then some ([], l) else (cutS l).map fun p => (b :: p.1, p.2)
def cndV (p : List UInt8) : Option Cnd := match cutS p with
 | some (o, v) => if o ∈ opsV then (readV v).map fun l => (o, l) else none
 | none => none
def cndsV : List (List UInt8) → Option (List Cnd)
 | [] => some []
 | p :: r => match cndV p, cndsV r with
  | some c, some l => some (c :: l)
  | _, _ => none
def condsV (r : List UInt8) : Option (List Cnd) :=
 if r = [] then some [] else match cndsV (csv 44 32 r) with
  | some l => if l.length ≤ 20 then some l else none
  | none => none
def textC (c : Cnd) : List UInt8 := c.1 ++ 32 :: textV c.2
def textR (l : List Cnd) : List UInt8 := join (l.map textC) [44, 32]
def COk (c : Cnd) : Prop := c.1 ∈ opsV ∧ VOk c.2 ∧ (textV c.2).length ≤ 60
theorem cutS_some : ∀ {p o v : List UInt8}, cutS p = some (o, v) → p = o ++ 32 :: v ∧ 32 ∉ o
 | [], _, _, h => by simp [cutS] at h
 | b :: l, o, v, h => by
  unfold cutS at h
  split at h
  ·rename_i hb; simp at h; obtain ⟨rfl, rfl⟩ := h; subst hb; simp
  ·rename_i hb
   cases hc : cutS l with
   | none => rw [hc] at h; simp at h
   | some q =>
    obtain ⟨x, y⟩ := q
    rw [hc] at h; simp at h
    obtain ⟨rfl, rfl⟩ := h
    obtain ⟨e, h2⟩ := cutS_some hc
    subst e
    exact ⟨rfl, by simp; exact ⟨fun q => hb q.symm, h2⟩⟩
theorem X3 {p : List UInt8} {c : Cnd} (h : cndV p = some c) : COk c ∧ textC c = p := by
 unfold cndV at h
 split at h
 ·rename_i o v hc
  split at h
  ·rename_i ho
   cases hr : readV v with
   | none => rw [hr] at h; simp at h
   | some l =>
    rw [hr] at h; simp at h; subst h
    obtain ⟨h1, h2, h3⟩ := jQ hr
    refine ⟨⟨ho, h1, by simp only; rw [h2]; exact h3⟩, ?_⟩
    simp only [textC, h2]
    exact (cutS_some hc).1.symm
  ·simp at h
 ·simp at h
theorem join_csv {c d : UInt8} (s : List UInt8) : join (csv c d s) [c, d] = s := by
 match s with
 | [] => simp [csv, join_one]
 | b :: l =>
  unfold csv
  split
  ·rename_i h
   have ih := join_csv (c := c) (d := d) l.tail
   cases l with
   | nil => simp at h
   | cons x r =>
    simp at h ih
    obtain ⟨rfl, rfl⟩ := h
    cases hd : csv b x r with
    | nil => exact absurd hd (csv_ne b x r)
    | cons y t =>
     rw [hd, join_cons] at ih
     rw [List.tail_cons, hd, join_cons]
     simp [joinTail] at ih ⊢; exact ih
  ·have ih := join_csv (c := c) (d := d) l
   cases hd : csv c d l with
   | nil => exact absurd hd (csv_ne c d l)
   | cons y t =>
    rw [hd, join_cons] at ih
    simp only [consH]
    rw [join_cons, List.cons_append, ih]
termination_by s.length
decreasing_by all_goals simp <;> omega
theorem Z9 : ∀ {ps : List (List UInt8)} {l : List Cnd}, cndsV ps = some l → l.map textC = ps ∧ ∀ c ∈ l, COk c
 | [], l, h => by simp [cndsV] at h; subst h; simp
 | p :: r, l, h => by
  unfold cndsV at h
  split at h
  ·rename_i x m hx hm
   simp at h; subst h
   obtain ⟨h1, h2⟩ := Z9 hm
   obtain ⟨h3, h4⟩ := X3 hx
   refine ⟨by simp [h1, h4], fun y hy => ?_⟩
   rcases List.mem_cons.1 hy with rfl | hy
   ·exact h3
   ·exact h2 y hy
  ·simp at h
theorem wU {r : List UInt8} {l : List Cnd} (h : condsV r = some l) : textR l = r ∧ (∀ c ∈ l, COk c) ∧ l.length ≤ 20 := by
 unfold condsV at h
 split at h
 ·rename_i e; simp at h; subst h; subst e; simp [textR, join_nil]
 ·split at h
  ·rename_i m hm
   split at h
   ·rename_i hl
    simp at h; subst h
    obtain ⟨h1, h2⟩ := Z9 hm
    refine ⟨?_, h2, hl⟩
    unfold textR; rw [h1, join_csv]
   ·simp at h
  ·simp at h
/-! what meets -/
def metV (l : List Seg) (c : Cnd) : Bool :=
 if c.1 = [61] then decide (cmpV l c.2 = 0) else if c.1 = [33, 61] then decide (cmpV l c.2 ≠ 0) else if c.1 = [62] then decide (0 < cmpV l c.2)
 else if c.1 = [60] then decide (cmpV l c.2 < 0) else if c.1 = [62, 61] then decide (0 ≤ cmpV l c.2) else if c.1 = [60, 61] then decide (cmpV l c.2 ≤ 0)
 else decide (0 ≤ cmpV l c.2) && decide (cmpV l (bumpV c.2) < 0)
def meetsV (l : List Seg) (cs : List Cnd) : Bool := cs.all (metV l) && (!preV l || cs.any fun c => preV c.2)
/-! versions of numbers -/
def MSeg (x : Seg) : Prop := SegOk x ∧ 0 ≤ x.2 ∧ x.2 ≤ 10 ∧ x.1.length ≤ 1
def MHead (l : List Seg) : Prop := ∃ n : Int, l.head? = some ([], n) ∧ 0 ≤ n ∧ n ≤ 3
def MOk (l : List Seg) : Prop := VOk l ∧ (textV l).length ≤ 16 ∧ (∀ x ∈ l, MSeg x) ∧ MHead l
theorem MOk.read {l : List Seg} (h : MOk l) : readV (textV l) = some l := xq h.1 (by have := h.2.1; omega)
theorem MHead.at {l : List Seg} (h : MHead l) : ∃ n : Int, atV l 0 = ([], n) ∧ 0 ≤ n ∧ n ≤ 3 := by
 obtain ⟨n, e, q⟩ := h
 refine ⟨n, ?_, q⟩
 cases l with
 | nil => simp at e
 | cons y r => simp at e; subst e; rfl
/-! Tidy -/
end Go.Ver
namespace Go.Ver
/-! stable sorting: lt x y: x stands before y -/
variable {α : Type} {lt : α → α → Bool}
def mergeL (lt : α → α → Bool) : List α → List α → List α
 | [], R => R
 | L, [] => L
 | l :: L, r :: R => if lt r l = true then r :: mergeL lt (l :: L) R else l :: mergeL lt L (r :: R)
termination_by L R => L.length + R.length
def Srt (lt : α → α → Bool) (l : List α) : Prop := l.Pairwise fun x y => lt y x = false
structure Weakly (lt : α → α → Bool) : Prop where
 anti : ∀ x y, lt x y = true → lt y x = false
 neg : ∀ x y z, lt y x = false → lt z y = false → lt z x = false
theorem zf (L : List α) : mergeL lt L [] = L := by cases L <;> simp [mergeL]
theorem zl (R : List α) : mergeL lt [] R = R := by simp [mergeL]
theorem qP (l : α) (L : List α) (r : α) (R : List α) : mergeL lt (l :: L) (r :: R) = if lt r l = true then r :: mergeL lt (l :: L) R else l :: mergeL lt L (r :: R) := by
 rw [mergeL]
theorem jA : ∀ {L R : List α} {x : α}, x ∈ mergeL lt L R ↔ x ∈ L ∨ x ∈ R
 | [], R, x => by simp [zl]
 | l :: L, [], x => by simp [zf]
 | l :: L, r :: R, x => by
  rw [qP]
  split
  ·rw [List.mem_cons, jA]; simp only [List.mem_cons]; grind
  ·rw [List.mem_cons, jA]; simp only [List.mem_cons]; grind
termination_by L R => L.length + R.length
theorem xW (w : Weakly lt) : ∀ {L R : List α}, Srt lt L → Srt lt R → Srt lt (mergeL lt L R)
 | [], R, _, h => by rw [zl]; exact h
 | l :: L, [], h, _ => by rw [zf]; exact h
 | l :: L, r :: R, h1, h2 => by
  have a1 := List.pairwise_cons.1 h1
  have a2 := List.pairwise_cons.1 h2
  rw [qP]
  split
  ·rename_i h
   refine List.pairwise_cons.2 ⟨fun y hy => ?_, xW w h1 a2.2⟩
   rcases jA.1 hy with hy | hy
   ·rcases List.mem_cons.1 hy with rfl | hy
    ·exact w.anti _ _ h
    ·exact w.neg _ _ _ (w.anti _ _ h) (a1.1 y hy)
   ·exact a2.1 y hy
  ·rename_i h
   have h' : lt r l = false := by simpa using h
   refine List.pairwise_cons.2 ⟨fun y hy => ?_, xW w a1.2 h2⟩
   rcases jA.1 hy with hy | hy
   ·exact a1.1 y hy
   ·rcases List.mem_cons.1 hy with rfl | hy
    ·exact h'
    ·exact w.neg _ _ _ h' (a2.1 y hy)
termination_by L R => L.length + R.length
theorem zL : ∀ {L1 L2 R1 R2 : List α}, (∀ x ∈ L1, ∀ y ∈ R2, lt y x = false) → (∀ y ∈ R1, ∀ x ∈ L2, lt y x = true) →
  mergeL lt (L1 ++ L2) (R1 ++ R2) = mergeL lt L1 R1 ++ mergeL lt L2 R2
 | [], L2, [], R2, _, _ => by simp [zl]
 | [], L2, r :: R1, R2, h1, h2 => by
  rw [zl]
  cases L2 with
  | nil => simp [zl]
  | cons x L2 =>
   have ih := zL (L1 := []) (L2 := x :: L2) (R1 := R1) (R2 := R2) (by simp) (fun y hy => h2 y (by simp [hy]))
   simp only [List.nil_append, zl] at ih
   simp only [List.nil_append, List.cons_append]
   rw [qP, if_pos (h2 r (by simp) x (by simp)), ih]
 | l :: L1, L2, [], R2, h1, h2 => by
  rw [zf]
  cases R2 with
  | nil => simp [zf]
  | cons y R2 =>
   have ih := zL (L1 := L1) (L2 := L2) (R1 := []) (R2 := y :: R2) (fun x hx => h1 x (by simp [hx])) (by simp)
   simp only [List.nil_append, zf] at ih
   simp only [List.nil_append, List.cons_append]
   rw [qP, if_neg (by rw [h1 l (by simp) y (by simp)]; simp), ih]
 | l :: L1, L2, r :: R1, R2, h1, h2 => by
  simp only [List.cons_append]
  rw [qP, qP]
  have e1 := zL (L1 := l :: L1) (L2 := L2) (R1 := R1) (R2 := R2) h1 (fun y hy => h2 y (by simp [hy]))
  have e2 := zL (L1 := L1) (L2 := L2) (R1 := r :: R1) (R2 := R2) (fun x hx => h1 x (by simp [hx])) h2
  simp only [List.cons_append] at e1 e2
  split
  ·rw [e1]; rfl
  ·rw [e2]; rfl
termination_by L1 L2 R1 R2 => L1.length + R1.length
theorem jg (w : Weakly lt) : ∀ {A B C : List α}, Srt lt A → Srt lt B → Srt lt C → mergeL lt (mergeL lt A B) C = mergeL lt A (mergeL lt B C)
 | [], B, C, _, _, _ => by rw [zl, zl]
 | a :: A, [], C, _, _, _ => by rw [zf, zl]
 | a :: A, b :: B, [], _, _, _ => by rw [zf, zf]
 | a :: A, b :: B, c :: C, h1, h2, h3 => by
  have a1 := List.pairwise_cons.1 h1
  have a2 := List.pairwise_cons.1 h2
  have a3 := List.pairwise_cons.1 h3
  have i1 := jg w (A := a :: A) (B := b :: B) (C := C) h1 h2 a3.2
  have i2 := jg w (A := a :: A) (B := B) (C := c :: C) h1 a2.2 h3
  have i3 := jg w (A := A) (B := b :: B) (C := c :: C) a1.2 h2 h3
  rw [qP a A b B, qP b B c C]
  by_cases hba : lt b a = true
  ·rw [if_pos hba, qP b _ c C]
   by_cases hcb : lt c b = true
   ·have hca : lt c a = true := by
     cases h : lt c a with
     | true => rfl
     | false =>
      have := w.neg a c b h (w.anti _ _ hcb)
      rw [hba] at this; cases this
    rw [if_pos hcb, if_pos hcb, qP a A c _, if_pos hca]
    rw [qP a A b B, if_pos hba] at i1
    rw [i1]
   ·rw [if_neg hcb, if_neg hcb, qP a A b _, if_pos hba, i2]
  ·rw [if_neg hba, qP a _ c C]
   by_cases hcb : lt c b = true
   ·rw [if_pos hcb]
    by_cases hca : lt c a = true
    ·rw [if_pos hca, qP a A c _, if_pos hca]
     rw [qP a A b B, if_neg hba] at i1
     rw [i1]
    ·rw [if_neg hca, qP a A c _, if_neg hca, i3, qP b B c C, if_pos hcb]
   ·rw [if_neg hcb]
    have hca : lt c a = false := w.neg a b c (by simpa using hba) (by simpa using hcb)
    rw [if_neg (by rw [hca]; simp), qP a A b _, if_neg hba, i3, qP b B c C, if_neg hcb]
termination_by A B C => A.length + B.length + C.length
def sortL (lt : α → α → Bool) : List α → List α
 | [] => []
 | x :: l => mergeL lt [x] (sortL lt l)
theorem sort_srt (w : Weakly lt) : ∀ l, Srt lt (sortL lt l)
 | [] => List.Pairwise.nil
 | x :: l => xW w (List.pairwise_singleton _ _) (sort_srt w l)
theorem sort_app (w : Weakly lt) : ∀ (A B : List α), sortL lt (A ++ B) = mergeL lt (sortL lt A) (sortL lt B)
 | [], B => by simp [sortL, zl]
 | x :: A, B => by
  show mergeL lt [x] (sortL lt (A ++ B)) = _
  rw [sort_app w A B, ← jg w (List.pairwise_singleton _ _) (sort_srt w A) (sort_srt w B)]; rfl
theorem sort_one (x : α) : sortL lt [x] = [x] := by simp [sortL, zf]
theorem sort_snoc (w : Weakly lt) (A : List α) (x : α) : sortL lt (A ++ [x]) = mergeL lt (sortL lt A) [x] := by rw [sort_app w, sort_one]
theorem jK (w : Weakly lt) {A B : List α} {x : α} (h1 : ∀ y ∈ A, lt x y = false) (h2 : ∀ y ∈ B, lt x y = true) : mergeL lt (A ++ B) [x] = A ++ x :: B := by
 have := zL (L1 := A) (L2 := B) (R1 := [x]) (R2 := []) (by simp) (fun y hy z hz => by simp at hy; subst hy; exact h2 z hz)
 simp only [List.append_nil, zf] at this
 rw [this]
 have e : mergeL lt A [x] = A ++ [x] := by
  have := zL (L1 := A) (L2 := []) (R1 := []) (R2 := [x]) (fun y hy z hz => by simp at hz; subst hz; exact h1 y hy) (by simp)
  simpa [zf, zl] using this
 rw [e]; simp
end Go.Ver
set_option linter.unusedSectionVars false
namespace Go.Eng
variable {P : Program} [HasGlob P]
/-! regions whose order is drawn -/
section
variable {ops : Array Oper} {Q : Exit → Act → World → Prop} {W : World → Prop}
def clear (G : List Nat) (L : Array Bool) : Bool := G.all fun g => !(L.getD g false)
def wpAnyT (P : Program) (ops : Array Oper) (Q : Exit → Act → World → Prop) (T : Array Bool → World → Prop) : Nat → Array Bool → Act → World → Prop
 | 0, L, a, w => Region.ready .any ops L = [] ∧ Q .normal a w
 | fuel + 1, L, a, w =>
  (Region.ready .any ops L = [] → Q .normal a w) ∧
  ∀ i ∈ Region.ready .any ops L, wpOp P ops Q i (fun a' w' => T (L.setIfInBounds i true) w' ∧ wpAnyT P ops Q T fuel (L.setIfInBounds i true) a' w') a w
theorem wpAny_of_T {T : Array Bool → World → Prop} : ∀ (fuel : Nat) (L : Array Bool) (a : Act) (w : World), wpAnyT P ops Q T fuel L a w → wpAny P .any ops Q fuel L a w
 | 0, _, _, _, h => h
 | fuel + 1, _, _, _, h => ⟨h.1, fun i hi => wpOp_mono (fun a' w' h' => wpAny_of_T fuel _ a' w' h'.2) (h.2 i hi)⟩
theorem wpAnyT_mono {T T' : Array Bool → World → Prop} {i : Nat} (hT : ∀ L w, L.getD i false = true → T' L w → T L w) : ∀ (fuel : Nat) (L : Array Bool) (a : Act) (w : World), L.getD i false = true → wpAnyT P ops Q T' fuel L a w → wpAnyT P ops Q T fuel L a w
 | 0, _, _, _, _, h => h
 | fuel + 1, L, _, _, hi, h => ⟨h.1, fun j hj => wpOp_mono (fun a' w' h' => ⟨hT _ _ (getD_set_true hi) h'.1, wpAnyT_mono hT fuel _ a' w' (getD_set_true hi) h'.2⟩) (h.2 j hj)⟩
theorem wpAnyT_mono' {T T' : Array Bool → World → Prop} (hT : ∀ L w, T' L w → T L w) : ∀ (fuel : Nat) (L : Array Bool) (a : Act) (w : World), wpAnyT P ops Q T' fuel L a w → wpAnyT P ops Q T fuel L a w
 | 0, _, _, _, h => h
 | fuel + 1, L, _, _, h => ⟨h.1, fun j hj => wpOp_mono (fun a' w' h' => ⟨hT _ _ h'.1, wpAnyT_mono' hT fuel _ a' w' h'.2⟩) (h.2 j hj)⟩
def Valid (ops : Array Oper) (L : Array Bool) : Prop := ∀ k o, ops[k]? = some o → L.getD k false = true → ∀ e ∈ o.after, Region.binds .any e = true → L.getD e.on false = true
def reach (ops : Array Oper) (p : Nat) : Nat → Nat → Bool
 | 0, _ => false
 | f + 1, g => match ops[g]? with
  | some o => o.after.any fun e => Region.binds .any e && (e.on == p || reach ops p f e.on)
  | none => false
theorem reach_listed {L : Array Bool} (hv : Valid ops L) {p : Nat} : ∀ f g o, ops[g]? = some o → reach ops p f g = true → (∀ e ∈ o.after, Region.binds .any e = true → L.getD e.on false = true) → L.getD p false = true := by
 intro f
 induction f with
 | zero => intro g o _ h; simp [reach] at h
 | succ f ih =>
  intro g o ho h hall
  simp only [reach, ho] at h
  obtain ⟨e, he, hb⟩ := Array.any_eq_true'.1 h
  simp only [Bool.and_eq_true, Bool.or_eq_true, beq_iff_eq] at hb
  have hl := hall e he hb.1
  rcases hb.2 with hp | hr
  ·rw [← hp]; exact hl
  ·cases ho' : ops[e.on]? with
   | none =>
    cases f with
    | zero => simp [reach] at hr
    | succ f => simp [reach, ho'] at hr
   | some o' => exact ih e.on o' ho' hr (hv e.on o' ho' hl)
theorem Valid.set {L : Array Bool} (hv : Valid ops L) {i : Nat} (hi : i ∈ Region.ready .any ops L) : Valid ops (L.setIfInBounds i true) := by
 intro k o ho hk e he hb
 obtain ⟨_, oi, hoi, hall⟩ := mem_ready.1 hi
 by_cases hki : i = k
 ·subst hki
  rw [ho] at hoi
  simp only [Option.some.injEq] at hoi
  subst hoi
  exact getD_set_true (hall e he hb)
 ·rw [getD_set_ne false hki] at hk
  exact getD_set_true (hv k o ho hk e he hb)
theorem clear_set {G : List Nat} {L : Array Bool} {i : Nat} (hi : i ∉ G) : clear G (L.setIfInBounds i true) = clear G L := by
 unfold clear
 rw [Bool.eq_iff_iff, List.all_eq_true, List.all_eq_true]
 constructor
 ·intro h g hg
  have := h g hg
  rwa [getD_set_ne false (fun e => hi (by rw [e]; exact hg))] at this
 ·intro h g hg
  rw [getD_set_ne false (fun e => hi (by rw [e]; exact hg))]
  exact h g hg
theorem setC {L : Array Bool} {i j : Nat} (h : j ≠ i) : (L.setIfInBounds j true).setIfInBounds i true = (L.setIfInBounds i true).setIfInBounds j true := Array.setIfInBounds_comm _ _ h
theorem wpAnyT_first {i : Nat} {oi : Oper} {v : Value} {T : Array Bool → World → Prop} (hi : ops[i]? = some oi) (hT : ∀ L w, T (L.setIfInBounds i true) w → T L w) (hsel : ∀ (j : Nat) (o : Oper) cs b, ops[j]? = some o → o.op ≠ .select cs b)
  (hQ : ∀ c a w, Q (.panic c) (a.put oi.dst v) w → Q (.panic c) a w) {V : World → Prop} (hV : ∀ L w, Valid ops L → L.getD i false = false → T L w → V w) :
  ∀ (fuel : Nat) (L : Array Bool) (a : Act) (w : World),
   (∀ j oj, ops[j]? = some oj → j ≠ i → L.getD j true = false → (∀ e ∈ oj.after, Region.binds .any e = true → e.on ≠ i) → oi.apart ops oj = true) →
   Valid ops L → i ∈ Region.ready .any ops L → YieldsIf P ops V oi v a → V w →
   wpAnyT P ops Q T fuel (L.setIfInBounds i true) (a.put oi.dst v) w → T (L.setIfInBounds i true) w → wpAnyT P ops Q T (fuel + 1) L a w := by
 intro fuel
 induction fuel with
 | zero =>
  intro L a w _ _ hr hy hS H hW
  refine ⟨fun h => (by rw [h] at hr; cases hr), fun j hj => ?_⟩
  by_cases hji : j = i
  ·subst hji; exact hy.wpOp hi hS ⟨hW, H⟩
  ·have := ready_mono hj hji
   rw [H.1] at this
   cases this
 | succ fuel ih =>
  intro L a w hfree hv hr hy hS H hW
  refine ⟨fun h => (by rw [h] at hr; cases hr), fun j hj => ?_⟩
  by_cases hji : j = i
  ·subst hji; exact hy.wpOp hi hS ⟨hW, H⟩
  ·have h1 := H.2 j (ready_mono hj hji)
   obtain ⟨hjun, oj, hoj, hall⟩ := mem_ready.1 hj
   have hil : L.getD i false = false := by
    have h0 := (mem_ready.1 hr).1
    rcases Nat.lt_or_ge i L.size with h' | h'
    ·simp [h'] at h0 ⊢; exact h0
    ·simp [Array.getElem?_eq_none h']
   have hnot : ∀ e ∈ oj.after, Region.binds .any e = true → e.on ≠ i := fun e he hb heq => by
    have h1 := hall e he hb
    rw [heq, hil] at h1
    cases h1
   have h2 := wpOp_putIf hoj (hfree j oj hoj hji hjun hnot) (fun cs b => hsel i oi cs b hi) (fun cs b => hsel j oj cs b hoj) hQ hy h1
   have hfree' : ∀ k ok, ops[k]? = some ok → k ≠ i → (L.setIfInBounds j true).getD k true = false →
     (∀ e ∈ ok.after, Region.binds .any e = true → e.on ≠ i) → oi.apart ops ok = true := fun k ok hk hki hun hno => by
    refine hfree k ok hk hki ?_ hno
    by_cases hjk : j = k
    ·subst hjk; exact hjun
    ·rw [getD_set_ne true hjk] at hun; exact hun
   refine wpOp_mono (fun a' w' h3 => ?_) h2
   have hW' : T (L.setIfInBounds j true) w' := hT _ _ (by rw [setC hji]; exact h3.2.1)
   have hil' : (L.setIfInBounds j true).getD i false = false := by rw [getD_set_ne false hji]; exact hil
   exact ⟨hW', ih (L.setIfInBounds j true) a' w' hfree' (hv.set hj) (ready_mono hr (Ne.symm hji)) h3.1 (hV _ _ (hv.set hj) hil' hW') (by rw [setC hji]; exact h3.2.2)
    (by rw [setC hji]; exact h3.2.1)⟩
theorem wpAnyT_only {i : Nat} {T : Array Bool → World → Prop} {fuel : Nat} {L : Array Bool} {a : Act} {w : World} (hr : Region.ready .any ops L = [i])
  (h : wpOp P ops Q i (fun a' w' => T (L.setIfInBounds i true) w' ∧ wpAnyT P ops Q T fuel (L.setIfInBounds i true) a' w') a w) : wpAnyT P ops Q T (fuel + 1) L a w :=
 ⟨fun h0 => (by rw [hr] at h0; cases h0), fun j hj => (by rw [hr] at hj; simp at hj; subst hj; exact h)⟩
theorem wpAnyT_two {i j : Nat} {T : Array Bool → World → Prop} {fuel : Nat} {L : Array Bool} {a : Act} {w : World} (hr : Region.ready .any ops L = [i, j])
  (h : wpOp P ops Q i (fun a' w' => T (L.setIfInBounds i true) w' ∧ wpAnyT P ops Q T fuel (L.setIfInBounds i true) a' w') a w)
  (h' : wpOp P ops Q j (fun a' w' => T (L.setIfInBounds j true) w' ∧ wpAnyT P ops Q T fuel (L.setIfInBounds j true) a' w') a w) : wpAnyT P ops Q T (fuel + 1) L a w :=
 ⟨fun h0 => (by rw [hr] at h0; cases h0), fun k hk => (by
  rw [hr] at hk
  simp only [List.mem_cons, List.not_mem_nil, or_false] at hk
  rcases hk with rfl | rfl
  ·exact h
  ·exact h')⟩
theorem wpAnyT_three {i j k : Nat} {T : Array Bool → World → Prop} {fuel : Nat} {L : Array Bool} {a : Act} {w : World} (hr : Region.ready .any ops L = [i, j, k])
  (hi : wpOp P ops Q i (fun a' w' => T (L.setIfInBounds i true) w' ∧ wpAnyT P ops Q T fuel (L.setIfInBounds i true) a' w') a w)
  (hj : wpOp P ops Q j (fun a' w' => T (L.setIfInBounds j true) w' ∧ wpAnyT P ops Q T fuel (L.setIfInBounds j true) a' w') a w)
  (hk : wpOp P ops Q k (fun a' w' => T (L.setIfInBounds k true) w' ∧ wpAnyT P ops Q T fuel (L.setIfInBounds k true) a' w') a w) : wpAnyT P ops Q T (fuel + 1) L a w :=
 ⟨fun h0 => (by rw [hr] at h0; cases h0), fun q hk => (by
  rw [hr] at hk
  simp only [List.mem_cons, List.not_mem_nil, or_false] at hk
  rcases hk with rfl | rfl | rfl
  ·exact hi
  ·exact hj
  ·exact hk)⟩
theorem wpAnyT_four {i j k l : Nat} {T : Array Bool → World → Prop} {fuel : Nat} {L : Array Bool} {a : Act} {w : World} (hr : Region.ready .any ops L = [i, j, k, l])
  (hi : wpOp P ops Q i (fun a' w' => T (L.setIfInBounds i true) w' ∧ wpAnyT P ops Q T fuel (L.setIfInBounds i true) a' w') a w)
  (hj : wpOp P ops Q j (fun a' w' => T (L.setIfInBounds j true) w' ∧ wpAnyT P ops Q T fuel (L.setIfInBounds j true) a' w') a w)
  (hk : wpOp P ops Q k (fun a' w' => T (L.setIfInBounds k true) w' ∧ wpAnyT P ops Q T fuel (L.setIfInBounds k true) a' w') a w)
  (hl : wpOp P ops Q l (fun a' w' => T (L.setIfInBounds l true) w' ∧ wpAnyT P ops Q T fuel (L.setIfInBounds l true) a' w') a w) : wpAnyT P ops Q T (fuel + 1) L a w :=
 ⟨fun h0 => (by rw [hr] at h0; cases h0), fun q hk => (by
  rw [hr] at hk
  simp only [List.mem_cons, List.not_mem_nil, or_false] at hk
  rcases hk with rfl | rfl | rfl | rfl
  ·exact hi
  ·exact hj
  ·exact hk
  ·exact hl)⟩
theorem wpAnyT_done {T : Array Bool → World → Prop} {L : Array Bool} {a : Act} {w : World} (hr : Region.ready .any ops L = []) (h : Q .normal a w) : ∀ fuel, wpAnyT P ops Q T fuel L a w
 | 0 => ⟨hr, h⟩
 | _ + 1 => ⟨fun _ => h, by rw [hr]; simp⟩
end
end Go.Eng
