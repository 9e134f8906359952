/- Part of a proof: see the last text. -/
import Derived.Test.YtelhdhofnohkcaaGreatDoorG02
import Derived.Test.YtelhdhofnohkcaaGreatDoorProg
import Derived.OrdersHeld
set_option linter.unusedVariables false
set_option linter.unusedSimpArgs false
namespace Go.Proofs.YtelhdhofnohkcaaGreatDoor
open Go.Eng
@[go_sem] theorem ct4 : qy Tryz.prog 4 = [none] := by kernel_rfl
@[go_sem] theorem bl25 : bldOf Tryz.prog 25 = some ([(0, 1), (1, 1), (2, 1), (3, 1)], [.string ⟨#[]⟩, .bool false, .int .i64 0, .string ⟨#[]⟩]) := by kernel_rfl
@[go_sem] theorem sl26 : qW Tryz.prog 26 = some (25, 4, 48) := by kernel_rfl
@[go_sem] theorem zr25 : zeroOf Tryz.prog 25 = some [.string ⟨#[]⟩, .bool false, .int .i64 0, .string ⟨#[]⟩] := by kernel_rfl
@[go_sem] theorem un22 : Tryz.prog.underlying 22 = some (.slice 30) := by kernel_rfl
@[go_sem] theorem sl22 : qW Tryz.prog 22 = some (30, 7, 64) := by kernel_rfl
@[go_sem] theorem zr30 : zeroOf Tryz.prog 30 = some [.int .i64 0, .int .i64 0, .int .i64 0, .int .i64 0, .int .i64 0, .int .i64 0, .string ⟨#[]⟩] := by kernel_rfl
@[go_sem] theorem un3 : Tryz.prog.underlying 3 = some (.int .i64) := by kernel_rfl
@[go_sem] theorem ty30 : tyOf Tryz.prog 30 = some (true, 7) := by kernel_rfl
@[go_sem] theorem ct30 : qy Tryz.prog 30 = [none, none, none, none, none, none, none] := by kernel_rfl
@[go_sem] theorem un9 : Tryz.prog.underlying 9 = some (.string) := by kernel_rfl
@[go_sem] theorem un26 : Tryz.prog.underlying 26 = some (.slice 25) := by kernel_rfl
@[go_sem] theorem fl25_0 : fldOf Tryz.prog 25 0 = some (0, false, 1) := by kernel_rfl
@[go_sem] theorem ty9 : tyOf Tryz.prog 9 = some (false, 1) := by kernel_rfl
@[go_sem] theorem un23 : Tryz.prog.underlying 23 = some (.slice 9) := by kernel_rfl
@[go_sem] theorem sl23 : qW Tryz.prog 23 = some (9, 1, 16) := by kernel_rfl
@[go_sem] theorem zr9 : zeroOf Tryz.prog 9 = some [.string ⟨#[]⟩] := by kernel_rfl
@[go_sem] theorem ct9 : qy Tryz.prog 9 = [none] := by kernel_rfl
@[go_sem] theorem ct26 : qy Tryz.prog 26 = [some 4] := by kernel_rfl
@[go_sem] theorem un34 : Tryz.prog.underlying 34 = some (.int .i64) := by kernel_rfl
@[go_sem] theorem un4 : Tryz.prog.underlying 4 = some (.bool) := by kernel_rfl
@[go_sem] theorem un39 : Tryz.prog.underlying 39 = some (.int .u64) := by kernel_rfl
@[go_sem] theorem bs3_39 : bytesOf Tryz.prog 3 39 = none := by kernel_rfl
@[go_sem] theorem bs39_3 : bytesOf Tryz.prog 39 3 = none := by kernel_rfl
@[go_sem] theorem fl30_3 : fldOf Tryz.prog 30 3 = some (3, false, 1) := by kernel_rfl
@[go_sem] theorem ty3 : tyOf Tryz.prog 3 = some (false, 1) := by kernel_rfl
@[go_sem] theorem fl30_4 : fldOf Tryz.prog 30 4 = some (4, false, 1) := by kernel_rfl
@[go_sem] theorem fl30_6 : fldOf Tryz.prog 30 6 = some (6, false, 1) := by kernel_rfl
@[go_sem] theorem bl30 : bldOf Tryz.prog 30 = some ([(0, 1), (1, 1), (2, 1), (3, 1), (4, 1), (5, 1), (6, 1)], [.int .i64 0, .int .i64 0, .int .i64 0, .int .i64 0, .int .i64 0, .int .i64 0, .string ⟨#[]⟩]) := by kernel_rfl
@[go_sem] theorem ct3 : qy Tryz.prog 3 = [none] := by kernel_rfl
@[go_sem] theorem sl42 : qW Tryz.prog 42 = some (3, 1, 8) := by kernel_rfl
@[go_sem] theorem zr3 : zeroOf Tryz.prog 3 = some [.int .i64 0] := by kernel_rfl
@[go_sem] theorem un48 : Tryz.prog.underlying 48 = some (.slice 23) := by kernel_rfl
@[go_sem] theorem sl48 : qW Tryz.prog 48 = some (23, 1, 24) := by kernel_rfl
@[go_sem] theorem zr23 : zeroOf Tryz.prog 23 = some [.slice none 0 0] := by kernel_rfl
@[go_sem] theorem ty23 : tyOf Tryz.prog 23 = some (false, 1) := by kernel_rfl
@[go_sem] theorem ct48 : qy Tryz.prog 48 = [some 1] := by kernel_rfl
@[go_sem] theorem ct23 : qy Tryz.prog 23 = [some 1] := by kernel_rfl
@[go_sem] theorem fl30_5 : fldOf Tryz.prog 30 5 = some (5, false, 1) := by kernel_rfl
@[go_sem] theorem fl30_0 : fldOf Tryz.prog 30 0 = some (0, false, 1) := by kernel_rfl
@[go_sem] theorem fl30_1 : fldOf Tryz.prog 30 1 = some (1, false, 1) := by kernel_rfl
@[go_sem] theorem fl30_2 : fldOf Tryz.prog 30 2 = some (2, false, 1) := by kernel_rfl
@[go_sem] theorem ty25 : tyOf Tryz.prog 25 = some (true, 4) := by kernel_rfl
@[go_sem] theorem fl25_3 : fldOf Tryz.prog 25 3 = some (3, false, 1) := by kernel_rfl
@[go_sem] theorem fl25_1 : fldOf Tryz.prog 25 1 = some (1, false, 1) := by kernel_rfl
@[go_sem] theorem ty4 : tyOf Tryz.prog 4 = some (false, 1) := by kernel_rfl
@[go_sem] theorem ct57 : qy Tryz.prog 57 = [some 4] := by kernel_rfl
@[go_sem] theorem ct34 : qy Tryz.prog 34 = [none] := by kernel_rfl
@[go_sem] theorem ct2 : qy Tryz.prog 2 = [none] := by kernel_rfl
@[go_sem] theorem ct44 : qy Tryz.prog 44 = [none] := by kernel_rfl
@[go_sem] theorem un42 : Tryz.prog.underlying 42 = some (.slice 3) := by kernel_rfl
@[go_sem] theorem zr70 : zeroOf Tryz.prog 70 = some [.pointer none, .slice none 0 0] := by kernel_rfl
@[go_sem] theorem ct70 : qy Tryz.prog 70 = [none, some 1] := by kernel_rfl
@[go_sem] theorem zr75 : zeroOf Tryz.prog 75 = some [.int .i64 0, .int .i64 0, .int .i64 0, .int .i64 0, .int .i64 0, .int .i64 0, .int .i64 0, .int .i64 0, .int .i64 0, .int .i64 0, .int .i64 0, .int .i64 0, .int .i64 0, .int .i64 0, .int .i64 0, .int .i64 0, .int .i64 0, .int .i64 0, .int .i64 0, .int .i64 0, .int .i64 0, .int .i64 0, .int .i64 0, .int .i64 0, .int .i64 0, .int .i64 0, .int .i64 0, .int .i64 0, .int .i64 0, .int .i64 0, .int .i64 0, .int .i64 0, .int .i64 0, .int .i64 0, .int .i64 0, .int .i64 0, .int .i64 0, .int .i64 0, .int .i64 0, .int .i64 0, .int .i64 0, .int .i64 0, .int .i64 0, .int .i64 0, .int .i64 0, .int .i64 0, .int .i64 0, .int .i64 0, .int .i64 0, .int .i64 0, .int .i64 0, .int .i64 0, .int .i64 0, .int .i64 0, .int .i64 0, .int .i64 0, .int .i64 0, .int .i64 0, .int .i64 0, .int .i64 0, .int .i64 0, .int .i64 0, .int .i64 0, .int .i64 0, .int .i64 0, .int .i64 0, .int .i64 0, .int .i64 0, .int .i64 0, .int .i64 0, .int .i64 0, .int .i64 0, .int .i64 0, .int .i64 0, .int .i64 0, .int .i64 0, .int .i64 0, .int .i64 0, .int .i64 0, .int .i64 0, .int .i64 0, .int .i64 0, .int .i64 0, .int .i64 0, .int .i64 0, .int .i64 0, .int .i64 0, .int .i64 0, .int .i64 0, .int .i64 0, .int .i64 0, .int .i64 0, .int .i64 0, .int .i64 0, .int .i64 0, .int .i64 0, .int .i64 0, .int .i64 0, .int .i64 0, .int .i64 0, .int .i64 0, .int .i64 0, .int .i64 0, .int .i64 0, .int .i64 0, .int .i64 0, .int .i64 0, .int .i64 0, .int .i64 0, .int .i64 0, .int .i64 0, .int .i64 0, .int .i64 0, .int .i64 0, .int .i64 0, .int .i64 0, .int .i64 0, .int .i64 0, .int .i64 0, .int .i64 0, .int .i64 0, .int .i64 0, .int .i64 0, .int .i64 0, .int .i64 0, .int .i64 0, .int .i64 0, .int .i64 0, .int .i64 0, .int .i64 0, .int .i64 0, .int .i64 0, .int .i64 0, .int .i64 0, .int .i64 0, .int .i64 0, .int .i64 0, .int .i64 0, .int .i64 0, .int .i64 0, .int .i64 0, .int .i64 0, .int .i64 0, .int .i64 0, .int .i64 0, .int .i64 0, .int .i64 0, .int .i64 0, .int .i64 0, .int .i64 0, .int .i64 0, .int .i64 0, .int .i64 0, .int .i64 0, .int .i64 0, .int .i64 0, .int .i64 0, .int .i64 0, .int .i64 0, .int .i64 0, .int .i64 0, .int .i64 0, .int .i64 0, .int .i64 0, .int .i64 0, .int .i64 0, .int .i64 0, .int .i64 0, .int .i64 0, .int .i64 0, .int .i64 0, .int .i64 0, .int .i64 0, .int .i64 0, .int .i64 0, .int .i64 0, .int .i64 0, .int .i64 0, .int .i64 0, .int .i64 0, .int .i64 0, .int .i64 0, .int .i64 0, .int .i64 0, .int .i64 0, .int .i64 0, .int .i64 0, .int .i64 0, .int .i64 0, .int .i64 0, .int .i64 0, .int .i64 0, .int .i64 0, .int .i64 0, .int .i64 0, .int .i64 0, .int .i64 0, .int .i64 0, .int .i64 0, .int .i64 0] := by kernel_rfl
@[go_sem] theorem sl75 : qW Tryz.prog 75 = none := by kernel_rfl
@[go_sem] theorem ar75 : arrOf Tryz.prog 75 = some (200, 1) := by kernel_rfl
@[go_sem] theorem un77 : Tryz.prog.underlying 77 = some (.slice 81) := by kernel_rfl
@[go_sem] theorem sl77 : qW Tryz.prog 77 = some (81, 10, 64) := by kernel_rfl
@[go_sem] theorem zr81 : zeroOf Tryz.prog 81 = some [.string ⟨#[]⟩, .string ⟨#[]⟩, .bool false, .bool false, .bool false, .bool false, .bool false, .int .i64 0, .int .i64 0, .int .u8 0] := by kernel_rfl
@[go_sem] theorem ty81 : tyOf Tryz.prog 81 = some (true, 10) := by kernel_rfl
@[go_sem] theorem fl81_9 : fldOf Tryz.prog 81 9 = some (9, false, 1) := by kernel_rfl
@[go_sem] theorem ty5 : tyOf Tryz.prog 5 = some (false, 1) := by kernel_rfl
@[go_sem] theorem un5 : Tryz.prog.underlying 5 = some (.int .u8) := by kernel_rfl
@[go_sem] theorem fl81_1 : fldOf Tryz.prog 81 1 = some (1, false, 1) := by kernel_rfl
@[go_sem] theorem fl81_7 : fldOf Tryz.prog 81 7 = some (7, false, 1) := by kernel_rfl
@[go_sem] theorem fl81_8 : fldOf Tryz.prog 81 8 = some (8, false, 1) := by kernel_rfl
@[go_sem] theorem fl25_2 : fldOf Tryz.prog 25 2 = some (2, false, 1) := by kernel_rfl
@[go_sem] theorem bl83 : bldOf Tryz.prog 83 = some ([(0, 1), (1, 1), (2, 1), (3, 1)], [.string ⟨#[]⟩, .bool false, .int .i64 0, .string ⟨#[]⟩]) := by kernel_rfl
@[go_sem] theorem sl57 : qW Tryz.prog 57 = some (83, 4, 48) := by kernel_rfl
@[go_sem] theorem zr83 : zeroOf Tryz.prog 83 = some [.string ⟨#[]⟩, .bool false, .int .i64 0, .string ⟨#[]⟩] := by kernel_rfl
@[go_sem] theorem un57 : Tryz.prog.underlying 57 = some (.slice 83) := by kernel_rfl
@[go_sem] theorem un84 : Tryz.prog.underlying 84 = some (.slice 88) := by kernel_rfl
@[go_sem] theorem sl84 : qW Tryz.prog 84 = some (88, 6, 72) := by kernel_rfl
@[go_sem] theorem zr88 : zeroOf Tryz.prog 88 = some [.int .u8 0, .string ⟨#[]⟩, .string ⟨#[]⟩, .string ⟨#[]⟩, .int .i64 0, .int .i64 0] := by kernel_rfl
@[go_sem] theorem fl88_0 : fldOf Tryz.prog 88 0 = some (0, false, 1) := by kernel_rfl
@[go_sem] theorem fl88_4 : fldOf Tryz.prog 88 4 = some (4, false, 1) := by kernel_rfl
@[go_sem] theorem fl88_5 : fldOf Tryz.prog 88 5 = some (5, false, 1) := by kernel_rfl
@[go_sem] theorem mp89 : mapOf Tryz.prog 89 = some (1, 4) := by kernel_rfl
@[go_sem] theorem zv4 : zeroV Tryz.prog 4 = some (.bool false) := by kernel_rfl
@[go_sem] theorem ct89 : qy Tryz.prog 89 = [none] := by kernel_rfl
@[go_sem] theorem ct92 : qy Tryz.prog 92 = [none] := by kernel_rfl
@[go_sem] theorem fl88_1 : fldOf Tryz.prog 88 1 = some (1, false, 1) := by kernel_rfl
@[go_sem] theorem ct77 : qy Tryz.prog 77 = [some 10] := by kernel_rfl
@[go_sem] theorem ct96 : qy Tryz.prog 96 = [none] := by kernel_rfl
@[go_sem] theorem bl99 : bldOf Tryz.prog 99 = some ([(0, 1), (1, 1)], [.slice none 0 0, .int .i64 0]) := by kernel_rfl
@[go_sem] theorem fl81_0 : fldOf Tryz.prog 81 0 = some (0, false, 1) := by kernel_rfl
@[go_sem] theorem ct97 : qy Tryz.prog 97 = [none] := by kernel_rfl
@[go_sem] theorem ct81 : qy Tryz.prog 81 = [none, none, none, none, none, none, none, none, none, none] := by kernel_rfl
@[go_sem] theorem fl99_1 : fldOf Tryz.prog 99 1 = some (1, false, 1) := by kernel_rfl
@[go_sem] theorem un105 : Tryz.prog.underlying 105 = some (.int .u64) := by kernel_rfl
@[go_sem] theorem un2 : Tryz.prog.underlying 2 = some (.int .i64) := by kernel_rfl
@[go_sem] theorem bs105_2 : bytesOf Tryz.prog 105 2 = none := by kernel_rfl
@[go_sem] theorem ct67 : qy Tryz.prog 67 = [none] := by kernel_rfl
@[go_sem] theorem fl70_1 : fldOf Tryz.prog 70 1 = some (1, false, 1) := by kernel_rfl
@[go_sem] theorem ty68 : tyOf Tryz.prog 68 = some (false, 1) := by kernel_rfl
@[go_sem] theorem un68 : Tryz.prog.underlying 68 = some (.slice 5) := by kernel_rfl
@[go_sem] theorem sl68 : qW Tryz.prog 68 = some (5, 1, 1) := by kernel_rfl
@[go_sem] theorem zr5 : zeroOf Tryz.prog 5 = some [.int .u8 0] := by kernel_rfl
@[go_sem] theorem ct39 : qy Tryz.prog 39 = [none] := by kernel_rfl
@[go_sem] theorem bl118 : bldOf Tryz.prog 118 = some ([(0, 1), (1, 1)], [.string ⟨#[]⟩, .int .i64 0]) := by kernel_rfl
@[go_sem] theorem fl118_1 : fldOf Tryz.prog 118 1 = some (1, false, 1) := by kernel_rfl
@[go_sem] theorem ct5 : qy Tryz.prog 5 = [none] := by kernel_rfl
@[go_sem] theorem bl81 : bldOf Tryz.prog 81 = some ([(0, 1), (1, 1), (2, 1), (3, 1), (4, 1), (5, 1), (6, 1), (7, 1), (8, 1), (9, 1)], [.string ⟨#[]⟩, .string ⟨#[]⟩, .bool false, .bool false, .bool false, .bool false, .bool false, .int .i64 0, .int .i64 0, .int .u8 0]) := by kernel_rfl
@[go_sem] theorem ct116 : qy Tryz.prog 116 = [none] := by kernel_rfl
@[go_sem] theorem ty88 : tyOf Tryz.prog 88 = some (true, 6) := by kernel_rfl
@[go_sem] theorem ct88 : qy Tryz.prog 88 = [none, none, none, none, none, none] := by kernel_rfl
@[go_sem] theorem ct123 : qy Tryz.prog 123 = [none] := by kernel_rfl
@[go_sem] theorem bs68_9 : bytesOf Tryz.prog 68 9 = none := by kernel_rfl
@[go_sem] theorem ct84 : qy Tryz.prog 84 = [some 6] := by kernel_rfl
@[go_sem] theorem bl88 : bldOf Tryz.prog 88 = some ([(0, 1), (1, 1), (2, 1), (3, 1), (4, 1), (5, 1)], [.int .u8 0, .string ⟨#[]⟩, .string ⟨#[]⟩, .string ⟨#[]⟩, .int .i64 0, .int .i64 0]) := by kernel_rfl
@[go_sem] theorem ct131 : qy Tryz.prog 131 = [none] := by kernel_rfl
@[go_sem] theorem ct25 : qy Tryz.prog 25 = [none, none, none, none] := by kernel_rfl
@[go_sem] theorem ct135 : qy Tryz.prog 135 = [none] := by kernel_rfl
@[go_sem] theorem bs3_5 : bytesOf Tryz.prog 3 5 = none := by kernel_rfl
@[go_sem] theorem zr142 : zeroOf Tryz.prog 142 = some [.int .u8 0, .int .u8 0, .int .u8 0, .int .u8 0, .int .u8 0, .int .u8 0, .int .u8 0, .int .u8 0, .int .u8 0, .int .u8 0, .int .u8 0, .int .u8 0, .int .u8 0, .int .u8 0, .int .u8 0, .int .u8 0, .int .u8 0, .int .u8 0, .int .u8 0, .int .u8 0, .int .u8 0, .int .u8 0, .int .u8 0, .int .u8 0] := by kernel_rfl
@[go_sem] theorem bs2_105 : bytesOf Tryz.prog 2 105 = none := by kernel_rfl
@[go_sem] theorem ct105 : qy Tryz.prog 105 = [none] := by kernel_rfl
@[go_sem] theorem sl142 : qW Tryz.prog 142 = none := by kernel_rfl
@[go_sem] theorem ar142 : arrOf Tryz.prog 142 = some (24, 1) := by kernel_rfl
@[go_sem] theorem ct68 : qy Tryz.prog 68 = [some 1] := by kernel_rfl
@[go_sem] theorem bs3_105 : bytesOf Tryz.prog 3 105 = none := by kernel_rfl
@[go_sem] theorem bs9_68 : bytesOf Tryz.prog 9 68 = some 5 := by kernel_rfl
@[go_sem] theorem bs5_105 : bytesOf Tryz.prog 5 105 = none := by kernel_rfl
@[go_sem] theorem ct108 : qy Tryz.prog 108 = [none] := by kernel_rfl
@[go_sem] theorem ty44 : tyOf Tryz.prog 44 = some (false, 1) := by kernel_rfl
@[go_sem] theorem bl149 : bldOf Tryz.prog 149 = some ([(0, 1), (1, 1), (2, 1)], [.string ⟨#[]⟩, .string ⟨#[]⟩, .nilIface]) := by kernel_rfl
@[go_sem] theorem fl70_0 : fldOf Tryz.prog 70 0 = some (0, false, 1) := by kernel_rfl
@[go_sem] theorem ty67 : tyOf Tryz.prog 67 = some (false, 1) := by kernel_rfl
@[go_sem] theorem bs67_151 : bytesOf Tryz.prog 67 151 = none := by kernel_rfl
@[go_sem] theorem ct151 : qy Tryz.prog 151 = [none] := by kernel_rfl
@[go_sem] theorem bs151_67 : bytesOf Tryz.prog 151 67 = none := by kernel_rfl
@[go_sem] theorem un153 : Tryz.prog.underlying 153 = some (.int .u32) := by kernel_rfl
@[go_sem] theorem bs39_153 : bytesOf Tryz.prog 39 153 = none := by kernel_rfl
@[go_sem] theorem ct153 : qy Tryz.prog 153 = [none] := by kernel_rfl
@[go_sem] theorem bs153_39 : bytesOf Tryz.prog 153 39 = none := by kernel_rfl
@[go_sem] theorem fl88_2 : fldOf Tryz.prog 88 2 = some (2, false, 1) := by kernel_rfl
@[go_sem] theorem fl88_3 : fldOf Tryz.prog 88 3 = some (3, false, 1) := by kernel_rfl
@[go_sem] theorem ty83 : tyOf Tryz.prog 83 = some (true, 4) := by kernel_rfl
@[go_sem] theorem ct83 : qy Tryz.prog 83 = [none, none, none, none] := by kernel_rfl
@[go_sem] theorem ty89 : tyOf Tryz.prog 89 = some (false, 1) := by kernel_rfl
@[go_sem] theorem sl174 : qW Tryz.prog 174 = some (123, 1, 8) := by kernel_rfl
@[go_sem] theorem zr123 : zeroOf Tryz.prog 123 = some [.pointer none] := by kernel_rfl
@[go_sem] theorem un174 : Tryz.prog.underlying 174 = some (.slice 123) := by kernel_rfl
@[go_sem] theorem ty123 : tyOf Tryz.prog 123 = some (false, 1) := by kernel_rfl
@[go_sem] theorem fl81_2 : fldOf Tryz.prog 81 2 = some (2, false, 1) := by kernel_rfl
@[go_sem] theorem fl99_0 : fldOf Tryz.prog 99 0 = some (0, false, 1) := by kernel_rfl
@[go_sem] theorem ty26 : tyOf Tryz.prog 26 = some (false, 1) := by kernel_rfl
@[go_sem] theorem ct177 : qy Tryz.prog 177 = [none] := by kernel_rfl
@[go_sem] theorem bl192 : bldOf Tryz.prog 192 = some ([(0, 3), (3, 1), (4, 1)], [.int .u32 0, .int .i32 0, .int .u32 0, .nilIface, .slice none 0 0]) := by kernel_rfl
@[go_sem] theorem fl192_0 : fldOf Tryz.prog 192 0 = some (0, true, 3) := by kernel_rfl
@[go_sem] theorem ct188 : qy Tryz.prog 188 = [none, none, none] := by kernel_rfl
@[go_sem] theorem ct1 : qy Tryz.prog 1 = [none] := by kernel_rfl
@[go_sem] theorem fl192_1 : fldOf Tryz.prog 192 1 = some (3, false, 1) := by kernel_rfl
@[go_sem] theorem ty190 : tyOf Tryz.prog 190 = some (false, 1) := by kernel_rfl
@[go_sem] theorem mp195 : mapOf Tryz.prog 195 = some (0, 3) := by kernel_rfl
@[go_sem] theorem zv3 : zeroV Tryz.prog 3 = some (.int .i64 0) := by kernel_rfl
@[go_sem] theorem fl81_4 : fldOf Tryz.prog 81 4 = some (4, false, 1) := by kernel_rfl
@[go_sem] theorem fl81_5 : fldOf Tryz.prog 81 5 = some (5, false, 1) := by kernel_rfl
@[go_sem] theorem fl81_6 : fldOf Tryz.prog 81 6 = some (6, false, 1) := by kernel_rfl
@[go_sem] theorem mp196 : mapOf Tryz.prog 196 = some (0, 9) := by kernel_rfl
@[go_sem] theorem zv9 : zeroV Tryz.prog 9 = some (.string ⟨#[]⟩) := by kernel_rfl
@[go_sem] theorem fl81_3 : fldOf Tryz.prog 81 3 = some (3, false, 1) := by kernel_rfl
@[go_sem] theorem ct21 : qy Tryz.prog 21 = [none] := by kernel_rfl
@[go_sem] theorem un21 : Tryz.prog.underlying 21 = some (.int .i32) := by kernel_rfl
@[go_sem] theorem bs5_21 : bytesOf Tryz.prog 5 21 = none := by kernel_rfl
@[go_sem] theorem sl200 : qW Tryz.prog 200 = none := by kernel_rfl
@[go_sem] theorem ar200 : arrOf Tryz.prog 200 = some (20, 1) := by kernel_rfl
@[go_sem] theorem ty105 : tyOf Tryz.prog 105 = some (false, 1) := by kernel_rfl
@[go_sem] theorem bs105_153 : bytesOf Tryz.prog 105 153 = none := by kernel_rfl
@[go_sem] theorem bs153_5 : bytesOf Tryz.prog 153 5 = none := by kernel_rfl
@[go_sem] theorem sl201 : qW Tryz.prog 201 = none := by kernel_rfl
@[go_sem] theorem ar201 : arrOf Tryz.prog 201 = some (65, 1) := by kernel_rfl
@[go_sem] theorem bl204 : bldOf Tryz.prog 204 = some ([(0, 1)], [.string ⟨#[]⟩]) := by kernel_rfl
@[go_sem] theorem bs153_105 : bytesOf Tryz.prog 153 105 = none := by kernel_rfl
@[go_sem] theorem fl118_0 : fldOf Tryz.prog 118 0 = some (0, false, 1) := by kernel_rfl
@[go_sem] theorem bs5_3 : bytesOf Tryz.prog 5 3 = none := by kernel_rfl
@[go_sem] theorem fl83_1 : fldOf Tryz.prog 83 1 = some (1, false, 1) := by kernel_rfl
@[go_sem] theorem fl83_2 : fldOf Tryz.prog 83 2 = some (2, false, 1) := by kernel_rfl
@[go_sem] theorem fl83_0 : fldOf Tryz.prog 83 0 = some (0, false, 1) := by kernel_rfl
@[go_sem] theorem un210 : Tryz.prog.underlying 210 = some (.int .i64) := by kernel_rfl
@[go_sem] theorem fl188_1 : fldOf Tryz.prog 188 1 = some (0, true, 1) := by kernel_rfl
@[go_sem] theorem ct182 : qy Tryz.prog 182 = [none] := by kernel_rfl
@[go_sem] theorem ct217 : qy Tryz.prog 217 = [none] := by kernel_rfl
@[go_sem] theorem fl192_2 : fldOf Tryz.prog 192 2 = some (4, false, 1) := by kernel_rfl
@[go_sem] theorem zr221 : zeroOf Tryz.prog 221 = some [.bool false, .bool false, .bool false, .bool false, .bool false, .bool false, .bool false, .bool false, .bool false, .bool false, .bool false, .bool false, .bool false, .bool false, .bool false, .bool false, .bool false, .bool false, .bool false, .bool false, .bool false, .bool false, .bool false, .bool false, .bool false, .bool false, .bool false, .bool false, .bool false, .bool false, .bool false, .bool false, .bool false, .bool false, .bool false, .bool false, .bool false, .bool false, .bool false, .bool false, .bool false, .bool false, .bool false, .bool false, .bool false, .bool false, .bool false, .bool false, .bool false, .bool false, .bool false, .bool false, .bool false, .bool false, .bool false, .bool false, .bool false, .bool false, .bool false, .bool false, .bool false, .bool false, .bool false, .bool false, .bool false, .bool false, .bool false, .bool false, .bool false, .bool false, .bool false, .bool false, .bool false, .bool false, .bool false, .bool false, .bool false, .bool false, .bool false, .bool false, .bool false, .bool false, .bool false, .bool false, .bool false, .bool false, .bool false, .bool false, .bool false, .bool false, .bool false, .bool false, .bool false, .bool false, .bool false, .bool false, .bool false, .bool false, .bool false, .bool false, .bool false, .bool false, .bool false, .bool false, .bool false, .bool false, .bool false, .bool false, .bool false, .bool false, .bool false, .bool false, .bool false, .bool false, .bool false, .bool false, .bool false, .bool false, .bool false, .bool false, .bool false, .bool false, .bool false, .bool false, .bool false, .bool false, .bool false, .bool false, .bool false, .bool false, .bool false, .bool false, .bool false, .bool false, .bool false, .bool false, .bool false, .bool false, .bool false, .bool false, .bool false, .bool false, .bool false, .bool false, .bool false, .bool false, .bool false, .bool false, .bool false, .bool false, .bool false, .bool false, .bool false, .bool false, .bool false, .bool false, .bool false, .bool false, .bool false, .bool false, .bool false, .bool false, .bool false, .bool false, .bool false, .bool false, .bool false, .bool false, .bool false, .bool false, .bool false, .bool false, .bool false, .bool false, .bool false, .bool false, .bool false, .bool false, .bool false, .bool false, .bool false, .bool false, .bool false, .bool false, .bool false, .bool false, .bool false, .bool false, .bool false, .bool false, .bool false, .bool false, .bool false, .bool false, .bool false, .bool false, .bool false, .bool false, .bool false, .bool false, .bool false, .bool false, .bool false, .bool false, .bool false, .bool false, .bool false, .bool false, .bool false, .bool false, .bool false, .bool false, .bool false, .bool false, .bool false, .bool false, .bool false, .bool false, .bool false, .bool false, .bool false, .bool false, .bool false, .bool false, .bool false, .bool false, .bool false, .bool false, .bool false, .bool false, .bool false, .bool false, .bool false, .bool false, .bool false, .bool false, .bool false, .bool false, .bool false, .bool false, .bool false, .bool false, .bool false, .bool false, .bool false, .bool false, .bool false, .bool false, .bool false, .bool false, .bool false, .bool false, .bool false, .bool false, .bool false, .bool false] := by kernel_rfl
@[go_sem] theorem ty221 : tyOf Tryz.prog 221 = some (true, 256) := by kernel_rfl
@[go_sem] theorem ct225 : qy Tryz.prog 225 = [none] := by kernel_rfl
@[go_sem] theorem ct228 : qy Tryz.prog 228 = [none] := by kernel_rfl
@[go_sem] theorem sl229 : qW Tryz.prog 229 = none := by kernel_rfl
@[go_sem] theorem ar229 : arrOf Tryz.prog 229 = some (256, 1) := by kernel_rfl
@[go_sem] theorem sl232 : qW Tryz.prog 232 = none := by kernel_rfl
@[go_sem] theorem ar232 : arrOf Tryz.prog 232 = some (16, 2) := by kernel_rfl
@[go_sem] theorem ty231 : tyOf Tryz.prog 231 = some (true, 2) := by kernel_rfl
@[go_sem] theorem zr231 : zeroOf Tryz.prog 231 = some [.int .u8 0, .int .u8 0] := by kernel_rfl
@[go_sem] theorem fl231_0 : fldOf Tryz.prog 231 0 = some (0, false, 1) := by kernel_rfl
@[go_sem] theorem fl231_1 : fldOf Tryz.prog 231 1 = some (1, false, 1) := by kernel_rfl
@[go_sem] theorem bs105_5 : bytesOf Tryz.prog 105 5 = none := by kernel_rfl
@[go_sem] theorem fl83_3 : fldOf Tryz.prog 83 3 = some (3, false, 1) := by kernel_rfl
@[go_sem] theorem un236 : Tryz.prog.underlying 236 = some (.int .u64) := by kernel_rfl
@[go_sem] theorem bs3_236 : bytesOf Tryz.prog 3 236 = none := by kernel_rfl
@[go_sem] theorem zr236 : zeroOf Tryz.prog 236 = some [.int .u64 0] := by kernel_rfl
@[go_sem] theorem ty236 : tyOf Tryz.prog 236 = some (false, 1) := by kernel_rfl
@[go_sem] theorem ct236 : qy Tryz.prog 236 = [none] := by kernel_rfl
@[go_sem] theorem ct210 : qy Tryz.prog 210 = [none] := by kernel_rfl
@[go_sem] theorem fl182_1 : fldOf Tryz.prog 182 1 = some (0, false, 1) := by kernel_rfl
@[go_sem] theorem ct243 : qy Tryz.prog 243 = [none] := by kernel_rfl
@[go_sem] theorem fl188_2 : fldOf Tryz.prog 188 2 = some (1, true, 2) := by kernel_rfl
@[go_sem] theorem ct186 : qy Tryz.prog 186 = [none, none] := by kernel_rfl
@[go_sem] theorem ct190 : qy Tryz.prog 190 = [none] := by kernel_rfl
@[go_sem] theorem zr249 : zeroOf Tryz.prog 249 = some [.int .u8 0, .int .u8 0, .int .u8 0, .int .u8 0, .int .u8 0, .int .u8 0, .int .u8 0, .int .u8 0, .int .u8 0, .int .u8 0, .int .u8 0, .int .u8 0, .int .u8 0, .int .u8 0, .int .u8 0, .int .u8 0, .int .u8 0, .int .u8 0, .int .u8 0, .int .u8 0, .int .u8 0, .int .u8 0, .int .u8 0, .int .u8 0, .int .u8 0, .int .u8 0, .int .u8 0, .int .u8 0, .int .u8 0, .int .u8 0, .int .u8 0, .int .u8 0, .int .u8 0, .int .u8 0, .int .u8 0, .int .u8 0, .int .u8 0, .int .u8 0, .int .u8 0, .int .u8 0, .int .u8 0, .int .u8 0, .int .u8 0, .int .u8 0, .int .u8 0, .int .u8 0, .int .u8 0, .int .u8 0, .int .u8 0, .int .u8 0, .int .u8 0, .int .u8 0, .int .u8 0, .int .u8 0, .int .u8 0, .int .u8 0, .int .u8 0, .int .u8 0, .int .u8 0, .int .u8 0, .int .u8 0, .int .u8 0, .int .u8 0, .int .u8 0, .int .u8 0, .int .u8 0, .int .u8 0, .int .u8 0, .int .u8 0, .int .u8 0, .int .u8 0, .int .u8 0, .int .u8 0, .int .u8 0, .int .u8 0, .int .u8 0, .int .u8 0, .int .u8 0, .int .u8 0, .int .u8 0, .int .u8 0, .int .u8 0, .int .u8 0, .int .u8 0, .int .u8 0, .int .u8 0, .int .u8 0, .int .u8 0, .int .u8 0, .int .u8 0, .int .u8 0, .int .u8 0, .int .u8 0, .int .u8 0, .int .u8 0, .int .u8 0, .int .u8 0, .int .u8 0, .int .u8 0, .int .u8 0, .int .u8 0, .int .u8 0, .int .u8 0, .int .u8 0, .int .u8 0, .int .u8 0, .int .u8 0, .int .u8 0, .int .u8 0, .int .u8 0, .int .u8 0, .int .u8 0, .int .u8 0, .int .u8 0, .int .u8 0, .int .u8 0, .int .u8 0, .int .u8 0, .int .u8 0, .int .u8 0, .int .u8 0, .int .u8 0, .int .u8 0, .int .u8 0, .int .u8 0, .int .u8 0, .int .u8 0, .int .u8 0, .int .u8 0, .int .u8 0, .int .u8 0, .int .u8 0, .int .u8 0, .int .u8 0, .int .u8 0, .int .u8 0, .int .u8 0, .int .u8 0, .int .u8 0, .int .u8 0, .int .u8 0, .int .u8 0, .int .u8 0, .int .u8 0, .int .u8 0, .int .u8 0, .int .u8 0, .int .u8 0, .int .u8 0, .int .u8 0, .int .u8 0, .int .u8 0, .int .u8 0, .int .u8 0, .int .u8 0, .int .u8 0, .int .u8 0, .int .u8 0, .int .u8 0, .int .u8 0, .int .u8 0, .int .u8 0, .int .u8 0, .int .u8 0, .int .u8 0, .int .u8 0, .int .u8 0, .int .u8 0, .int .u8 0, .int .u8 0, .int .u8 0, .int .u8 0, .int .u8 0, .int .u8 0, .int .u8 0, .int .u8 0, .int .u8 0, .int .u8 0, .int .u8 0, .int .u8 0, .int .u8 0, .int .u8 0, .int .u8 0, .int .u8 0, .int .u8 0, .int .u8 0, .int .u8 0, .int .u8 0, .int .u8 0, .int .u8 0, .int .u8 0, .int .u8 0, .int .u8 0, .int .u8 0, .int .u8 0, .int .u8 0, .int .u8 0, .int .u8 0, .int .u8 0, .int .u8 0, .int .u8 0, .int .u8 0, .int .u8 0, .int .u8 0, .int .u8 0, .int .u8 0, .int .u8 0, .int .u8 0, .int .u8 0, .int .u8 0, .int .u8 0, .int .u8 0, .int .u8 0, .int .u8 0, .int .u8 0, .int .u8 0, .int .u8 0, .int .u8 0, .int .u8 0, .int .u8 0, .int .u8 0, .int .u8 0, .int .u8 0, .int .u8 0, .int .u8 0, .int .u8 0, .int .u8 0, .int .u8 0, .int .u8 0, .int .u8 0, .int .u8 0, .int .u8 0, .int .u8 0, .int .u8 0, .int .u8 0, .int .u8 0, .int .u8 0, .int .u8 0, .int .u8 0, .int .u8 0, .int .u8 0, .int .u8 0, .int .u8 0, .int .u8 0, .int .u8 0, .int .u8 0, .int .u8 0, .int .u8 0, .int .u8 0, .int .u8 0, .int .u8 0, .int .u8 0, .int .u8 0, .int .u8 0, .int .u8 0, .int .u8 0] := by kernel_rfl
@[go_sem] theorem ty249 : tyOf Tryz.prog 249 = some (true, 256) := by kernel_rfl
@[go_sem] theorem sl249 : qW Tryz.prog 249 = none := by kernel_rfl
@[go_sem] theorem ar249 : arrOf Tryz.prog 249 = some (256, 1) := by kernel_rfl
@[go_sem] theorem bl253 : bldOf Tryz.prog 253 = some ([(0, 256), (256, 1)], [.slice none 0 0, .slice none 0 0, .slice none 0 0, .slice none 0 0, .slice none 0 0, .slice none 0 0, .slice none 0 0, .slice none 0 0, .slice none 0 0, .slice none 0 0, .slice none 0 0, .slice none 0 0, .slice none 0 0, .slice none 0 0, .slice none 0 0, .slice none 0 0, .slice none 0 0, .slice none 0 0, .slice none 0 0, .slice none 0 0, .slice none 0 0, .slice none 0 0, .slice none 0 0, .slice none 0 0, .slice none 0 0, .slice none 0 0, .slice none 0 0, .slice none 0 0, .slice none 0 0, .slice none 0 0, .slice none 0 0, .slice none 0 0, .slice none 0 0, .slice none 0 0, .slice none 0 0, .slice none 0 0, .slice none 0 0, .slice none 0 0, .slice none 0 0, .slice none 0 0, .slice none 0 0, .slice none 0 0, .slice none 0 0, .slice none 0 0, .slice none 0 0, .slice none 0 0, .slice none 0 0, .slice none 0 0, .slice none 0 0, .slice none 0 0, .slice none 0 0, .slice none 0 0, .slice none 0 0, .slice none 0 0, .slice none 0 0, .slice none 0 0, .slice none 0 0, .slice none 0 0, .slice none 0 0, .slice none 0 0, .slice none 0 0, .slice none 0 0, .slice none 0 0, .slice none 0 0, .slice none 0 0, .slice none 0 0, .slice none 0 0, .slice none 0 0, .slice none 0 0, .slice none 0 0, .slice none 0 0, .slice none 0 0, .slice none 0 0, .slice none 0 0, .slice none 0 0, .slice none 0 0, .slice none 0 0, .slice none 0 0, .slice none 0 0, .slice none 0 0, .slice none 0 0, .slice none 0 0, .slice none 0 0, .slice none 0 0, .slice none 0 0, .slice none 0 0, .slice none 0 0, .slice none 0 0, .slice none 0 0, .slice none 0 0, .slice none 0 0, .slice none 0 0, .slice none 0 0, .slice none 0 0, .slice none 0 0, .slice none 0 0, .slice none 0 0, .slice none 0 0, .slice none 0 0, .slice none 0 0, .slice none 0 0, .slice none 0 0, .slice none 0 0, .slice none 0 0, .slice none 0 0, .slice none 0 0, .slice none 0 0, .slice none 0 0, .slice none 0 0, .slice none 0 0, .slice none 0 0, .slice none 0 0, .slice none 0 0, .slice none 0 0, .slice none 0 0, .slice none 0 0, .slice none 0 0, .slice none 0 0, .slice none 0 0, .slice none 0 0, .slice none 0 0, .slice none 0 0, .slice none 0 0, .slice none 0 0, .slice none 0 0, .slice none 0 0, .slice none 0 0, .slice none 0 0, .slice none 0 0, .slice none 0 0, .slice none 0 0, .slice none 0 0, .slice none 0 0, .slice none 0 0, .slice none 0 0, .slice none 0 0, .slice none 0 0, .slice none 0 0, .slice none 0 0, .slice none 0 0, .slice none 0 0, .slice none 0 0, .slice none 0 0, .slice none 0 0, .slice none 0 0, .slice none 0 0, .slice none 0 0, .slice none 0 0, .slice none 0 0, .slice none 0 0, .slice none 0 0, .slice none 0 0, .slice none 0 0, .slice none 0 0, .slice none 0 0, .slice none 0 0, .slice none 0 0, .slice none 0 0, .slice none 0 0, .slice none 0 0, .slice none 0 0, .slice none 0 0, .slice none 0 0, .slice none 0 0, .slice none 0 0, .slice none 0 0, .slice none 0 0, .slice none 0 0, .slice none 0 0, .slice none 0 0, .slice none 0 0, .slice none 0 0, .slice none 0 0, .slice none 0 0, .slice none 0 0, .slice none 0 0, .slice none 0 0, .slice none 0 0, .slice none 0 0, .slice none 0 0, .slice none 0 0, .slice none 0 0, .slice none 0 0, .slice none 0 0, .slice none 0 0, .slice none 0 0, .slice none 0 0, .slice none 0 0, .slice none 0 0, .slice none 0 0, .slice none 0 0, .slice none 0 0, .slice none 0 0, .slice none 0 0, .slice none 0 0, .slice none 0 0, .slice none 0 0, .slice none 0 0, .slice none 0 0, .slice none 0 0, .slice none 0 0, .slice none 0 0, .slice none 0 0, .slice none 0 0, .slice none 0 0, .slice none 0 0, .slice none 0 0, .slice none 0 0, .slice none 0 0, .slice none 0 0, .slice none 0 0, .slice none 0 0, .slice none 0 0, .slice none 0 0, .slice none 0 0, .slice none 0 0, .slice none 0 0, .slice none 0 0, .slice none 0 0, .slice none 0 0, .slice none 0 0, .slice none 0 0, .slice none 0 0, .slice none 0 0, .slice none 0 0, .slice none 0 0, .slice none 0 0, .slice none 0 0, .slice none 0 0, .slice none 0 0, .slice none 0 0, .slice none 0 0, .slice none 0 0, .slice none 0 0, .slice none 0 0, .slice none 0 0, .slice none 0 0, .slice none 0 0, .slice none 0 0, .slice none 0 0, .slice none 0 0, .slice none 0 0, .slice none 0 0, .slice none 0 0, .slice none 0 0, .slice none 0 0, .slice none 0 0, .slice none 0 0, .slice none 0 0, .slice none 0 0, .slice none 0 0, .slice none 0 0, .slice none 0 0, .slice none 0 0, .slice none 0 0, .slice none 0 0, .slice none 0 0]) := by kernel_rfl
@[go_sem] theorem zr253 : zeroOf Tryz.prog 253 = some [.slice none 0 0, .slice none 0 0, .slice none 0 0, .slice none 0 0, .slice none 0 0, .slice none 0 0, .slice none 0 0, .slice none 0 0, .slice none 0 0, .slice none 0 0, .slice none 0 0, .slice none 0 0, .slice none 0 0, .slice none 0 0, .slice none 0 0, .slice none 0 0, .slice none 0 0, .slice none 0 0, .slice none 0 0, .slice none 0 0, .slice none 0 0, .slice none 0 0, .slice none 0 0, .slice none 0 0, .slice none 0 0, .slice none 0 0, .slice none 0 0, .slice none 0 0, .slice none 0 0, .slice none 0 0, .slice none 0 0, .slice none 0 0, .slice none 0 0, .slice none 0 0, .slice none 0 0, .slice none 0 0, .slice none 0 0, .slice none 0 0, .slice none 0 0, .slice none 0 0, .slice none 0 0, .slice none 0 0, .slice none 0 0, .slice none 0 0, .slice none 0 0, .slice none 0 0, .slice none 0 0, .slice none 0 0, .slice none 0 0, .slice none 0 0, .slice none 0 0, .slice none 0 0, .slice none 0 0, .slice none 0 0, .slice none 0 0, .slice none 0 0, .slice none 0 0, .slice none 0 0, .slice none 0 0, .slice none 0 0, .slice none 0 0, .slice none 0 0, .slice none 0 0, .slice none 0 0, .slice none 0 0, .slice none 0 0, .slice none 0 0, .slice none 0 0, .slice none 0 0, .slice none 0 0, .slice none 0 0, .slice none 0 0, .slice none 0 0, .slice none 0 0, .slice none 0 0, .slice none 0 0, .slice none 0 0, .slice none 0 0, .slice none 0 0, .slice none 0 0, .slice none 0 0, .slice none 0 0, .slice none 0 0, .slice none 0 0, .slice none 0 0, .slice none 0 0, .slice none 0 0, .slice none 0 0, .slice none 0 0, .slice none 0 0, .slice none 0 0, .slice none 0 0, .slice none 0 0, .slice none 0 0, .slice none 0 0, .slice none 0 0, .slice none 0 0, .slice none 0 0, .slice none 0 0, .slice none 0 0, .slice none 0 0, .slice none 0 0, .slice none 0 0, .slice none 0 0, .slice none 0 0, .slice none 0 0, .slice none 0 0, .slice none 0 0, .slice none 0 0, .slice none 0 0, .slice none 0 0, .slice none 0 0, .slice none 0 0, .slice none 0 0, .slice none 0 0, .slice none 0 0, .slice none 0 0, .slice none 0 0, .slice none 0 0, .slice none 0 0, .slice none 0 0, .slice none 0 0, .slice none 0 0, .slice none 0 0, .slice none 0 0, .slice none 0 0, .slice none 0 0, .slice none 0 0, .slice none 0 0, .slice none 0 0, .slice none 0 0, .slice none 0 0, .slice none 0 0, .slice none 0 0, .slice none 0 0, .slice none 0 0, .slice none 0 0, .slice none 0 0, .slice none 0 0, .slice none 0 0, .slice none 0 0, .slice none 0 0, .slice none 0 0, .slice none 0 0, .slice none 0 0, .slice none 0 0, .slice none 0 0, .slice none 0 0, .slice none 0 0, .slice none 0 0, .slice none 0 0, .slice none 0 0, .slice none 0 0, .slice none 0 0, .slice none 0 0, .slice none 0 0, .slice none 0 0, .slice none 0 0, .slice none 0 0, .slice none 0 0, .slice none 0 0, .slice none 0 0, .slice none 0 0, .slice none 0 0, .slice none 0 0, .slice none 0 0, .slice none 0 0, .slice none 0 0, .slice none 0 0, .slice none 0 0, .slice none 0 0, .slice none 0 0, .slice none 0 0, .slice none 0 0, .slice none 0 0, .slice none 0 0, .slice none 0 0, .slice none 0 0, .slice none 0 0, .slice none 0 0, .slice none 0 0, .slice none 0 0, .slice none 0 0, .slice none 0 0, .slice none 0 0, .slice none 0 0, .slice none 0 0, .slice none 0 0, .slice none 0 0, .slice none 0 0, .slice none 0 0, .slice none 0 0, .slice none 0 0, .slice none 0 0, .slice none 0 0, .slice none 0 0, .slice none 0 0, .slice none 0 0, .slice none 0 0, .slice none 0 0, .slice none 0 0, .slice none 0 0, .slice none 0 0, .slice none 0 0, .slice none 0 0, .slice none 0 0, .slice none 0 0, .slice none 0 0, .slice none 0 0, .slice none 0 0, .slice none 0 0, .slice none 0 0, .slice none 0 0, .slice none 0 0, .slice none 0 0, .slice none 0 0, .slice none 0 0, .slice none 0 0, .slice none 0 0, .slice none 0 0, .slice none 0 0, .slice none 0 0, .slice none 0 0, .slice none 0 0, .slice none 0 0, .slice none 0 0, .slice none 0 0, .slice none 0 0, .slice none 0 0, .slice none 0 0, .slice none 0 0, .slice none 0 0, .slice none 0 0, .slice none 0 0, .slice none 0 0, .slice none 0 0, .slice none 0 0, .slice none 0 0, .slice none 0 0, .slice none 0 0, .slice none 0 0, .slice none 0 0, .slice none 0 0, .slice none 0 0, .slice none 0 0, .slice none 0 0, .slice none 0 0, .slice none 0 0, .slice none 0 0, .slice none 0 0, .slice none 0 0, .slice none 0 0, .slice none 0 0, .slice none 0 0, .slice none 0 0, .slice none 0 0, .slice none 0 0] := by kernel_rfl
@[go_sem] theorem ty253 : tyOf Tryz.prog 253 = some (true, 257) := by kernel_rfl
@[go_sem] theorem fl253_0 : fldOf Tryz.prog 253 0 = some (0, true, 256) := by kernel_rfl
@[go_sem] theorem sl251 : qW Tryz.prog 251 = none := by kernel_rfl
@[go_sem] theorem ar251 : arrOf Tryz.prog 251 = some (256, 1) := by kernel_rfl
@[go_sem] theorem fl253_1 : fldOf Tryz.prog 253 1 = some (256, false, 1) := by kernel_rfl
@[go_sem] theorem ct221 : qy Tryz.prog 221 = [none, none, none, none, none, none, none, none, none, none, none, none, none, none, none, none, none, none, none, none, none, none, none, none, none, none, none, none, none, none, none, none, none, none, none, none, none, none, none, none, none, none, none, none, none, none, none, none, none, none, none, none, none, none, none, none, none, none, none, none, none, none, none, none, none, none, none, none, none, none, none, none, none, none, none, none, none, none, none, none, none, none, none, none, none, none, none, none, none, none, none, none, none, none, none, none, none, none, none, none, none, none, none, none, none, none, none, none, none, none, none, none, none, none, none, none, none, none, none, none, none, none, none, none, none, none, none, none, none, none, none, none, none, none, none, none, none, none, none, none, none, none, none, none, none, none, none, none, none, none, none, none, none, none, none, none, none, none, none, none, none, none, none, none, none, none, none, none, none, none, none, none, none, none, none, none, none, none, none, none, none, none, none, none, none, none, none, none, none, none, none, none, none, none, none, none, none, none, none, none, none, none, none, none, none, none, none, none, none, none, none, none, none, none, none, none, none, none, none, none, none, none, none, none, none, none, none, none, none, none, none, none, none, none, none, none, none, none, none, none, none, none, none, none, none, none, none, none, none, none, none, none, none, none, none, none] := by kernel_rfl
@[go_sem] theorem sl221 : qW Tryz.prog 221 = none := by kernel_rfl
@[go_sem] theorem ar221 : arrOf Tryz.prog 221 = some (256, 1) := by kernel_rfl
@[go_sem] theorem bs21_5 : bytesOf Tryz.prog 21 5 = none := by kernel_rfl
@[go_sem] theorem bs5_153 : bytesOf Tryz.prog 5 153 = none := by kernel_rfl
@[go_sem] theorem sl261 : qW Tryz.prog 261 = none := by kernel_rfl
@[go_sem] theorem ar261 : arrOf Tryz.prog 261 = some (32, 1) := by kernel_rfl
@[go_sem] theorem sl262 : qW Tryz.prog 262 = none := by kernel_rfl
@[go_sem] theorem ar262 : arrOf Tryz.prog 262 = some (64, 1) := by kernel_rfl
@[go_sem] theorem fl186_1 : fldOf Tryz.prog 186 1 = some (0, true, 2) := by kernel_rfl
@[go_sem] theorem ct184 : qy Tryz.prog 184 = [none, none] := by kernel_rfl
@[go_sem] theorem ct245 : qy Tryz.prog 245 = [none] := by kernel_rfl
@[go_sem] theorem bl272 : bldOf Tryz.prog 272 = some ([(0, 1), (1, 1)], [.pointer none, .string ⟨#[]⟩]) := by kernel_rfl
@[go_sem] theorem ct247 : qy Tryz.prog 247 = [none] := by kernel_rfl
@[go_sem] theorem zr278 : zeroOf Tryz.prog 278 = some [.string ⟨#[]⟩, .int .i64 0, .string ⟨#[]⟩, .pointer none, .slice none 0 0, .int .i64 0, .int .u8 0, .int .u8 0, .int .u8 0, .int .u8 0, .int .u8 0, .int .u8 0, .int .u8 0, .int .u8 0, .int .u8 0, .int .u8 0, .int .u8 0, .int .u8 0, .int .u8 0, .int .u8 0, .int .u8 0, .int .u8 0, .int .u8 0, .int .u8 0, .int .u8 0, .int .u8 0, .int .u8 0, .int .u8 0, .int .u8 0, .int .u8 0, .int .u8 0, .int .u8 0, .int .u8 0, .int .u8 0, .int .u8 0, .int .u8 0, .int .u8 0, .int .u8 0, .int .u8 0, .int .u8 0, .int .u8 0, .int .u8 0, .int .u8 0, .int .u8 0, .int .u8 0, .int .u8 0, .int .u8 0, .int .u8 0, .int .u8 0, .int .u8 0, .int .u8 0, .int .u8 0, .int .u8 0, .int .u8 0, .int .u8 0, .int .u8 0, .int .u8 0, .int .u8 0, .int .u8 0, .int .u8 0, .int .u8 0, .int .u8 0, .int .u8 0, .int .u8 0, .int .u8 0, .int .u8 0, .int .u8 0, .int .u8 0, .int .u8 0, .int .u8 0, .int .u8 0, .int .u8 0, .int .u8 0, .int .u8 0, .int .u8 0, .int .u8 0, .int .u8 0, .int .u8 0, .int .u8 0, .int .u8 0, .int .u8 0, .int .u8 0, .int .u8 0, .int .u8 0, .int .u8 0, .int .u8 0, .int .u8 0, .int .u8 0, .int .u8 0, .int .u8 0, .int .u8 0, .int .u8 0, .int .u8 0, .int .u8 0, .int .u8 0, .int .u8 0, .int .u8 0, .int .u8 0, .int .u8 0, .int .u8 0, .int .u8 0, .int .u8 0, .int .u8 0, .int .u8 0, .int .u8 0, .int .u8 0, .int .u8 0, .int .u8 0, .int .u8 0, .int .u8 0, .int .u8 0, .int .u8 0, .int .u8 0, .int .u8 0, .int .u8 0, .int .u8 0, .int .u8 0, .int .u8 0, .int .u8 0, .int .u8 0, .int .u8 0, .int .u8 0, .int .u8 0, .int .u8 0, .int .u8 0, .int .u8 0, .int .u8 0, .int .u8 0, .int .u8 0, .int .u8 0, .int .u8 0, .int .u8 0, .int .u8 0, .int .u8 0, .int .u8 0, .int .u8 0, .int .u8 0, .int .u8 0, .int .u8 0, .int .u8 0, .int .u8 0, .int .u8 0, .int .u8 0, .int .u8 0, .int .u8 0, .int .u8 0, .int .u8 0, .int .u8 0, .int .u8 0, .int .u8 0, .int .u8 0, .int .u8 0, .int .u8 0, .int .u8 0, .int .u8 0, .int .u8 0, .int .u8 0, .int .u8 0, .int .u8 0, .int .u8 0, .int .u8 0, .int .u8 0, .int .u8 0, .int .u8 0, .int .u8 0, .int .u8 0, .int .u8 0, .int .u8 0, .int .u8 0, .int .u8 0, .int .u8 0, .int .u8 0, .int .u8 0, .int .u8 0, .int .u8 0, .int .u8 0, .int .u8 0, .int .u8 0, .int .u8 0, .int .u8 0, .int .u8 0, .int .u8 0, .int .u8 0, .int .u8 0, .int .u8 0, .int .u8 0, .int .u8 0, .int .u8 0, .int .u8 0, .int .u8 0, .int .u8 0, .int .u8 0, .int .u8 0, .int .u8 0, .int .u8 0, .int .u8 0, .int .u8 0, .int .u8 0, .int .u8 0, .int .u8 0, .int .u8 0, .int .u8 0, .int .u8 0, .int .u8 0, .int .u8 0, .int .u8 0, .int .u8 0, .int .u8 0, .int .u8 0, .int .u8 0, .int .u8 0, .int .u8 0, .int .u8 0, .int .u8 0, .int .u8 0, .int .u8 0, .int .u8 0, .int .u8 0, .int .u8 0, .int .u8 0, .int .u8 0, .int .u8 0, .int .u8 0, .int .u8 0, .int .u8 0, .int .u8 0, .int .u8 0, .int .u8 0, .int .u8 0, .int .u8 0, .int .u8 0, .int .u8 0, .int .u8 0, .int .u8 0, .int .u8 0, .int .u8 0, .int .u8 0, .int .u8 0, .int .u8 0, .int .u8 0, .int .u8 0, .int .u8 0, .int .u8 0, .int .u8 0, .int .u8 0, .int .u8 0, .int .u8 0, .int .u8 0, .int .u8 0, .int .u8 0, .int .u8 0, .int .u8 0, .int .u8 0, .int .u8 0, .int .u8 0, .int .u8 0, .int .u8 0, .int .u8 0, .int .u8 0, .int .u8 0, .int .u8 0, .int .u8 0] := by kernel_rfl
@[go_sem] theorem fl278_2 : fldOf Tryz.prog 278 2 = some (6, true, 256) := by kernel_rfl
@[go_sem] theorem ty229 : tyOf Tryz.prog 229 = some (true, 256) := by kernel_rfl
@[go_sem] theorem fl278_1 : fldOf Tryz.prog 278 1 = some (5, false, 1) := by kernel_rfl
@[go_sem] theorem sl274 : qW Tryz.prog 274 = some (273, 1, 8) := by kernel_rfl
@[go_sem] theorem zr273 : zeroOf Tryz.prog 273 = some [.pointer none] := by kernel_rfl
@[go_sem] theorem fl278_0 : fldOf Tryz.prog 278 0 = some (0, true, 5) := by kernel_rfl
@[go_sem] theorem fl276_4 : fldOf Tryz.prog 276 4 = some (4, false, 1) := by kernel_rfl
@[go_sem] theorem ty274 : tyOf Tryz.prog 274 = some (false, 1) := by kernel_rfl
@[go_sem] theorem ct276 : qy Tryz.prog 276 = [none, none, none, none, some 1] := by kernel_rfl
@[go_sem] theorem ty284 : tyOf Tryz.prog 284 = some (false, 1) := by kernel_rfl
@[go_sem] theorem ct284 : qy Tryz.prog 284 = [some 5] := by kernel_rfl
@[go_sem] theorem bs105_3 : bytesOf Tryz.prog 105 3 = none := by kernel_rfl
@[go_sem] theorem fl184_0 : fldOf Tryz.prog 184 0 = some (0, false, 1) := by kernel_rfl
@[go_sem] theorem ct287 : qy Tryz.prog 287 = [none] := by kernel_rfl
@[go_sem] theorem bs285_151 : bytesOf Tryz.prog 285 151 = none := by kernel_rfl
@[go_sem] theorem ct285 : qy Tryz.prog 285 = [none] := by kernel_rfl
@[go_sem] theorem ty21 : tyOf Tryz.prog 21 = some (false, 1) := by kernel_rfl
@[go_sem] theorem ct269 : qy Tryz.prog 269 = [none] := by kernel_rfl
@[go_sem] theorem bl293 : bldOf Tryz.prog 293 = some ([(0, 1), (1, 256), (257, 1)], [.string ⟨#[]⟩, .int .i64 0, .int .i64 0, .int .i64 0, .int .i64 0, .int .i64 0, .int .i64 0, .int .i64 0, .int .i64 0, .int .i64 0, .int .i64 0, .int .i64 0, .int .i64 0, .int .i64 0, .int .i64 0, .int .i64 0, .int .i64 0, .int .i64 0, .int .i64 0, .int .i64 0, .int .i64 0, .int .i64 0, .int .i64 0, .int .i64 0, .int .i64 0, .int .i64 0, .int .i64 0, .int .i64 0, .int .i64 0, .int .i64 0, .int .i64 0, .int .i64 0, .int .i64 0, .int .i64 0, .int .i64 0, .int .i64 0, .int .i64 0, .int .i64 0, .int .i64 0, .int .i64 0, .int .i64 0, .int .i64 0, .int .i64 0, .int .i64 0, .int .i64 0, .int .i64 0, .int .i64 0, .int .i64 0, .int .i64 0, .int .i64 0, .int .i64 0, .int .i64 0, .int .i64 0, .int .i64 0, .int .i64 0, .int .i64 0, .int .i64 0, .int .i64 0, .int .i64 0, .int .i64 0, .int .i64 0, .int .i64 0, .int .i64 0, .int .i64 0, .int .i64 0, .int .i64 0, .int .i64 0, .int .i64 0, .int .i64 0, .int .i64 0, .int .i64 0, .int .i64 0, .int .i64 0, .int .i64 0, .int .i64 0, .int .i64 0, .int .i64 0, .int .i64 0, .int .i64 0, .int .i64 0, .int .i64 0, .int .i64 0, .int .i64 0, .int .i64 0, .int .i64 0, .int .i64 0, .int .i64 0, .int .i64 0, .int .i64 0, .int .i64 0, .int .i64 0, .int .i64 0, .int .i64 0, .int .i64 0, .int .i64 0, .int .i64 0, .int .i64 0, .int .i64 0, .int .i64 0, .int .i64 0, .int .i64 0, .int .i64 0, .int .i64 0, .int .i64 0, .int .i64 0, .int .i64 0, .int .i64 0, .int .i64 0, .int .i64 0, .int .i64 0, .int .i64 0, .int .i64 0, .int .i64 0, .int .i64 0, .int .i64 0, .int .i64 0, .int .i64 0, .int .i64 0, .int .i64 0, .int .i64 0, .int .i64 0, .int .i64 0, .int .i64 0, .int .i64 0, .int .i64 0, .int .i64 0, .int .i64 0, .int .i64 0, .int .i64 0, .int .i64 0, .int .i64 0, .int .i64 0, .int .i64 0, .int .i64 0, .int .i64 0, .int .i64 0, .int .i64 0, .int .i64 0, .int .i64 0, .int .i64 0, .int .i64 0, .int .i64 0, .int .i64 0, .int .i64 0, .int .i64 0, .int .i64 0, .int .i64 0, .int .i64 0, .int .i64 0, .int .i64 0, .int .i64 0, .int .i64 0, .int .i64 0, .int .i64 0, .int .i64 0, .int .i64 0, .int .i64 0, .int .i64 0, .int .i64 0, .int .i64 0, .int .i64 0, .int .i64 0, .int .i64 0, .int .i64 0, .int .i64 0, .int .i64 0, .int .i64 0, .int .i64 0, .int .i64 0, .int .i64 0, .int .i64 0, .int .i64 0, .int .i64 0, .int .i64 0, .int .i64 0, .int .i64 0, .int .i64 0, .int .i64 0, .int .i64 0, .int .i64 0, .int .i64 0, .int .i64 0, .int .i64 0, .int .i64 0, .int .i64 0, .int .i64 0, .int .i64 0, .int .i64 0, .int .i64 0, .int .i64 0, .int .i64 0, .int .i64 0, .int .i64 0, .int .i64 0, .int .i64 0, .int .i64 0, .int .i64 0, .int .i64 0, .int .i64 0, .int .i64 0, .int .i64 0, .int .i64 0, .int .i64 0, .int .i64 0, .int .i64 0, .int .i64 0, .int .i64 0, .int .i64 0, .int .i64 0, .int .i64 0, .int .i64 0, .int .i64 0, .int .i64 0, .int .i64 0, .int .i64 0, .int .i64 0, .int .i64 0, .int .i64 0, .int .i64 0, .int .i64 0, .int .i64 0, .int .i64 0, .int .i64 0, .int .i64 0, .int .i64 0, .int .i64 0, .int .i64 0, .int .i64 0, .int .i64 0, .int .i64 0, .int .i64 0, .int .i64 0, .int .i64 0, .int .i64 0, .int .i64 0, .int .i64 0, .int .i64 0, .int .i64 0, .int .i64 0, .int .i64 0, .int .i64 0, .int .i64 0, .int .i64 0, .int .i64 0, .int .i64 0, .int .i64 0, .int .i64 0, .int .i64 0, .int .i64 0, .int .i64 0, .int .i64 0, .int .i64 0, .int .i64 0, .int .i64 0, .int .i64 0, .int .i64 0, .int .i64 0, .slice none 0 0]) := by kernel_rfl
@[go_sem] theorem fl293_1 : fldOf Tryz.prog 293 1 = some (1, true, 256) := by kernel_rfl
@[go_sem] theorem sl291 : qW Tryz.prog 291 = none := by kernel_rfl
@[go_sem] theorem ar291 : arrOf Tryz.prog 291 = some (256, 1) := by kernel_rfl
@[go_sem] theorem fl293_2 : fldOf Tryz.prog 293 2 = some (257, false, 1) := by kernel_rfl
@[go_sem] theorem ty42 : tyOf Tryz.prog 42 = some (false, 1) := by kernel_rfl
@[go_sem] theorem fl276_1 : fldOf Tryz.prog 276 1 = some (1, false, 1) := by kernel_rfl
@[go_sem] theorem fl276_0 : fldOf Tryz.prog 276 0 = some (0, false, 1) := by kernel_rfl
@[go_sem] theorem fl276_2 : fldOf Tryz.prog 276 2 = some (2, false, 1) := by kernel_rfl
@[go_sem] theorem fl276_3 : fldOf Tryz.prog 276 3 = some (3, false, 1) := by kernel_rfl
@[go_sem] theorem ty273 : tyOf Tryz.prog 273 = some (false, 1) := by kernel_rfl
@[go_sem] theorem ct273 : qy Tryz.prog 273 = [none] := by kernel_rfl
@[go_sem] theorem bl276 : bldOf Tryz.prog 276 = some ([(0, 1), (1, 1), (2, 1), (3, 1), (4, 1)], [.string ⟨#[]⟩, .int .i64 0, .string ⟨#[]⟩, .pointer none, .slice none 0 0]) := by kernel_rfl
@[go_sem] theorem zr276 : zeroOf Tryz.prog 276 = some [.string ⟨#[]⟩, .int .i64 0, .string ⟨#[]⟩, .pointer none, .slice none 0 0] := by kernel_rfl
@[go_sem] theorem un274 : Tryz.prog.underlying 274 = some (.slice 273) := by kernel_rfl
@[go_sem] theorem bs21_9 : bytesOf Tryz.prog 21 9 = none := by kernel_rfl
@[go_sem] theorem bs21_153 : bytesOf Tryz.prog 21 153 = none := by kernel_rfl
@[go_sem] theorem ct295 : qy Tryz.prog 295 = [none] := by kernel_rfl
@[go_sem] theorem fl184_1 : fldOf Tryz.prog 184 1 = some (1, false, 1) := by kernel_rfl
@[go_sem] theorem un284 : Tryz.prog.underlying 284 = some (.slice 304) := by kernel_rfl
@[go_sem] theorem sl284 : qW Tryz.prog 284 = some (304, 5, 20) := by kernel_rfl
@[go_sem] theorem zr304 : zeroOf Tryz.prog 304 = some [.int .u32 0, .int .u32 0, .int .i32 0, .int .i32 0, .int .i32 0] := by kernel_rfl
@[go_sem] theorem fl304_0 : fldOf Tryz.prog 304 0 = some (0, false, 1) := by kernel_rfl
@[go_sem] theorem ty153 : tyOf Tryz.prog 153 = some (false, 1) := by kernel_rfl
@[go_sem] theorem bs153_21 : bytesOf Tryz.prog 153 21 = none := by kernel_rfl
@[go_sem] theorem fl304_1 : fldOf Tryz.prog 304 1 = some (1, false, 1) := by kernel_rfl
@[go_sem] theorem fl304_2 : fldOf Tryz.prog 304 2 = some (2, true, 3) := by kernel_rfl
@[go_sem] theorem sl302 : qW Tryz.prog 302 = none := by kernel_rfl
@[go_sem] theorem ar302 : arrOf Tryz.prog 302 = some (3, 1) := by kernel_rfl
@[go_sem] theorem bs3_21 : bytesOf Tryz.prog 3 21 = none := by kernel_rfl
@[go_sem] theorem fl272_0 : fldOf Tryz.prog 272 0 = some (0, false, 1) := by kernel_rfl
@[go_sem] theorem ty269 : tyOf Tryz.prog 269 = some (false, 1) := by kernel_rfl
@[go_sem] theorem fl272_1 : fldOf Tryz.prog 272 1 = some (1, false, 1) := by kernel_rfl
@[go_sem] theorem fl293_0 : fldOf Tryz.prog 293 0 = some (0, false, 1) := by kernel_rfl
@[go_sem] theorem ct321 : qy Tryz.prog 321 = [none] := by kernel_rfl
@[go_sem] theorem sl318 : qW Tryz.prog 318 = some (5, 1, 1) := by kernel_rfl
@[go_sem] theorem zr318 : zeroOf Tryz.prog 318 = some [.slice none 0 0] := by kernel_rfl
@[go_sem] theorem ty318 : tyOf Tryz.prog 318 = some (false, 1) := by kernel_rfl
@[go_sem] theorem un318 : Tryz.prog.underlying 318 = some (.slice 5) := by kernel_rfl
@[go_sem] theorem bs318_9 : bytesOf Tryz.prog 318 9 = none := by kernel_rfl
@[go_sem] theorem ct323 : qy Tryz.prog 323 = [none] := by kernel_rfl
@[go_sem] theorem bl329 : bldOf Tryz.prog 329 = some ([(0, 1)], [.nilIface]) := by kernel_rfl
@[go_sem] theorem fl329_0 : fldOf Tryz.prog 329 0 = some (0, false, 1) := by kernel_rfl
@[go_sem] theorem ty321 : tyOf Tryz.prog 321 = some (false, 1) := by kernel_rfl
end Go.Proofs.YtelhdhofnohkcaaGreatDoor
namespace Go.Fm
/-! chapter 4, plain: what the program's reader of formats reads -/
structure Fld where
 tx : List UInt8
 nm : List UInt8
 lf : Bool
 ze : Bool
 pl : Bool
 bl : Bool
 ha : Bool
 wd : Int
 pr : Int
 lt : UInt8
deriving DecidableEq
def fd0 : Fld := ⟨[], [], false, false, false, false, false, -1, -1, 0⟩
def fdT (t : List UInt8) : Fld := ⟨t, [], false, false, false, false, false, 0, 0, 0⟩
def pk (s : List UInt8) : UInt8 := s.headD 0
def isDig (c : UInt8) : Bool := decide (48 ≤ c) && decide (c ≤ 57)
def digR (n : Nat) (any : Bool) : List UInt8 → Nat × Bool × List UInt8
 | [] => (n, any, [])
 | c :: r => if isDig c then digR (min (n * 10 + (c.toNat - 48)) 1001) true r else (n, any, c :: r)
def digitsV (missing : Int) (s : List UInt8) : Int × Bool × List UInt8 :=
 if pk s = 42 then (-2, true, s.tail) else
 let q := digR 0 false s
 if q.2.1 then ((q.1 : Int), decide (q.1 ≤ 1000), q.2.2) else (missing, true, q.2.2)
def flagR (f : Fld) : List UInt8 → Fld × List UInt8
 | [] => (f, [])
 | c :: r =>
  if c = 45 then flagR { f with lf := true } r
  else if c = 48 then flagR { f with ze := true } r
  else if c = 43 then flagR { f with pl := true } r
  else if c = 32 then flagR { f with bl := true } r
  else if c = 35 then flagR { f with ha := true } r
  else (f, c :: r)
def isNm (c : UInt8) : Bool := (decide (97 ≤ c) && decide (c ≤ 122)) || c == 95
def nameV (s : List UInt8) : Option (List UInt8 × List UInt8) :=
 if pk s ≠ 60 then some ([], s) else
 let n := s.findIdx (· == 62)
 if n < s.length ∧ 2 ≤ n ∧ ((s.take n).drop 1).all isNm then some ((s.take n).drop 1, s.drop (n + 1)) else none
def lets : List UInt8 := [100, 120, 88, 111, 98, 115, 99, 112]
def precV (s : List UInt8) : Int × Bool × List UInt8 := if pk s = 46 then digitsV 0 s.tail else (-1, true, s)
def fieldV (s : List UInt8) : Option (Fld × List UInt8) :=
 match nameV s with
 | none => none
 | some (nm, s1) =>
  let q := flagR { fd0 with nm := nm } s1
  let w := digitsV (-1) q.2
  if w.2.1 = false then none else
  let p := precV w.2.2
  if p.2.1 = false then none else
  let c := pk p.2.2
  if c ≠ 0 ∧ c ∈ lets ∧ ((w.1 = -2 ∨ p.1 = -2) → nm = []) then some ({ q.1 with wd := w.1, pr := p.1, lt := c }, p.2.2.tail) else none
def readF : Nat → List UInt8 → List Fld → Bool → Bool → Option (List Fld)
 | 0, _, _, _, _ => none
 | k + 1, s, out, nd, pn =>
  if s = [] then (if nd && pn then none else some out) else
  let n := s.findIdx (· == 37)
  if s.length ≤ n then (if nd && pn then none else some (out ++ [fdT s]))
  else if 0 < n then readF k (s.drop n) (out ++ [fdT (s.take n)]) nd pn
  else if s.tail.head? = some 37 then readF k (s.drop 2) (out ++ [fdT [37]]) nd pn
  else match fieldV s.tail with
   | none => none
   | some (f, r) => readF k r (out ++ [f]) (nd || f.nm != []) (pn || f.nm == [])
def readV (s : List UInt8) : Option (List Fld) := if 2000 < s.length then none else readF (s.length + 1) s [] false false
def escV (s : List UInt8) : List UInt8 := s.flatMap fun c => if c = 37 then [37, 37] else [c]
theorem digR_len (n : Nat) (a : Bool) (s : List UInt8) : (digR n a s).2.2.length ≤ s.length := by
 induction s generalizing n a with
 | nil => simp [digR]
 | cons c r ih =>
  unfold digR
  split
  ·have := ih (min (n * 10 + (c.toNat - 48)) 1001) true
   simp; omega
  ·simp
theorem jA (m : Int) (s : List UInt8) : (digitsV m s).2.2.length ≤ s.length := by
 unfold digitsV
 have := digR_len 0 false s
 split
 ·simp
 ·simp only; split <;> simpa using this
theorem flagR_len (f : Fld) (s : List UInt8) : (flagR f s).2.length ≤ s.length := by
 induction s generalizing f with
 | nil => simp [flagR]
 | cons c r ih =>
  unfold flagR
  repeat' split
  all_goals first | (simp; done) | (refine Nat.le_trans (ih _) ?_; simp)
theorem wF (s : List UInt8) : (precV s).2.2.length ≤ s.length := by
 unfold precV
 split
 ·refine Nat.le_trans (jA _ _) ?_
  simp
 ·simp
theorem wJ {s a r : List UInt8} (h : nameV s = some (a, r)) : r.length ≤ s.length := by
 unfold nameV at h
 split at h
 ·cases h; simp
 ·simp only at h
  split at h
  ·cases h; simp
  ·cases h
theorem zJ {s r : List UInt8} {f : Fld} (h : fieldV s = some (f, r)) : r.length < s.length := by
 unfold fieldV at h
 split at h
 ·cases h
 ·rename_i nm s1 hn
  have h1 := wJ hn
  simp only at h
  have h2 := flagR_len { fd0 with nm := nm } s1
  generalize flagR { fd0 with nm := nm } s1 = q at *
  have h3 := jA (-1) q.2
  generalize digitsV (-1) q.2 = w at *
  have h4 := wF w.2.2
  generalize precV w.2.2 = p at *
  split at h
  ·cases h
  ·split at h
   ·cases h
   ·split at h
    ·rename_i hc
     have : p.2.2 ≠ [] := by intro e; rw [e] at hc; exact hc.1 rfl
     have hp : 0 < p.2.2.length := by
      cases hq : p.2.2 with
      | nil => exact absurd hq this
      | cons a b => simp
     cases h
     simp
     omega
    ·cases h
/-! a text with each % doubled is read as pieces of the text -/
def Pl (L : List Fld) : Prop := ∀ f ∈ L, f.lt = 0 ∧ f.nm = []
def joinV (L : List Fld) : List UInt8 := L.flatMap (·.tx)
theorem esc_no {a : List UInt8} (h : ∀ c ∈ a, c ≠ 37) : escV a = a := by
 induction a with
 | nil => rfl
 | cons c r ih =>
  have hc := h c (by simp)
  have := ih fun x hx => h x (by simp [hx])
  simp [escV] at this ⊢
  simp [hc, this]
theorem esc_app (a b : List UInt8) : escV (a ++ b) = escV a ++ escV b := by simp [escV]
theorem esc_cons37 (b : List UInt8) : escV (37 :: b) = 37 :: 37 :: escV b := by simp [escV]
theorem split37 (s : List UInt8) : (∀ c ∈ s, c ≠ 37) ∨ ∃ a b, s = a ++ 37 :: b ∧ ∀ c ∈ a, c ≠ 37 := by
 induction s with
 | nil => left; simp
 | cons c r ih =>
  by_cases hc : c = 37
  ·right; exact ⟨[], r, by simp [hc], by simp⟩
  ·rcases ih with h | ⟨a, b, e, h⟩
   ·left; intro x hx; rcases List.mem_cons.1 hx with rfl | hx
    ·exact hc
    ·exact h x hx
   ·right; exact ⟨c :: a, b, by simp [e], fun x hx => (List.mem_cons.1 hx).elim (fun e => e ▸ hc) (h x)⟩
theorem find_app {a b : List UInt8} (h : ∀ c ∈ a, c ≠ 37) : (a ++ 37 :: b).findIdx (· == 37) = a.length := by
 induction a with
 | nil => simp [List.findIdx_cons]
 | cons c r ih =>
  have hc := h c (by simp)
  have := ih fun x hx => h x (by simp [hx])
  have hb : (c == 37) = false := by simpa using hc
  simp [List.findIdx_cons, hb, this]
theorem find_no {a : List UInt8} (h : ∀ c ∈ a, c ≠ 37) : a.findIdx (· == 37) = a.length := by
 induction a with
 | nil => rfl
 | cons c r ih =>
  have hc := h c (by simp)
  have := ih fun x hx => h x (by simp [hx])
  have hb : (c == 37) = false := by simpa using hc
  simp [List.findIdx_cons, hb, this]
theorem pl_snoc {L : List Fld} (h : Pl L) (t : List UInt8) : Pl (L ++ [fdT t]) := by
 intro f hf
 rcases List.mem_append.1 hf with hf | hf
 ·exact h f hf
 ·rw [List.mem_singleton.1 hf]; exact ⟨rfl, rfl⟩
theorem esc_len (s : List UInt8) : (escV s).length ≤ 2 * s.length := by
 induction s with
 | nil => simp [escV]
 | cons c r ih =>
  have e : escV (c :: r) = (if c = 37 then [37, 37] else [c]) ++ escV r := by simp [escV]
  rw [e]
  split <;> simp <;> omega
/-! what the document's reader of formats reads, and that it is the same -/
structure Rf where
 lt : UInt8
 nm : List UInt8
 by' : List UInt8
 fl : List UInt8
 wd : Int
 pr : Int
def isFl (c : UInt8) : Bool := c == 45 || c == 48 || c == 43 || c == 32 || c == 35
def sizN (n : Nat) (d : List UInt8) : Nat := d.foldl (fun n c => min (10 * n + (c.toNat - 48)) 100000) n
def sizeV (missing : Int) (s : List UInt8) : Int × Bool × List UInt8 :=
 if pk s = 42 then (-2, true, s.tail) else
 if s.takeWhile isDig = [] then (missing, true, s.dropWhile isDig) else ((sizN 0 (s.takeWhile isDig) : Int), decide (sizN 0 (s.takeWhile isDig) ≤ 1000), s.dropWhile isDig)
def Two (a b : Nat) : Prop := a = b ∨ (1000 < a ∧ 1000 < b)
theorem digR_take (n : Nat) (any : Bool) (s : List UInt8) : (digR n any s).2 = (any || !(s.takeWhile isDig).isEmpty, s.dropWhile isDig) := by
 induction s generalizing n any with
 | nil => simp [digR]
 | cons c r ih =>
  unfold digR
  by_cases h : isDig c = true
  ·rw [if_pos h, ih]; simp [h]
  ·rw [if_neg h]; simp [h]
theorem Q7 {a b : Nat} (h : Two a b) (c : Nat) : Two (min (a * 10 + c) 1001) (min (10 * b + c) 100000) := by
 unfold Two at *
 omega
theorem digR_siz (n m : Nat) (any : Bool) (s : List UInt8) (h : Two n m) : Two (digR n any s).1 (sizN m (s.takeWhile isDig)) := by
 induction s generalizing n m any with
 | nil => simpa [digR, sizN] using h
 | cons c r ih =>
  unfold digR
  by_cases hc : isDig c = true
  ·rw [if_pos hc]
   have := ih _ _ true (Q7 h (c.toNat - 48))
   simpa [hc, sizN] using this
  ·rw [if_neg hc]
   simpa [hc, sizN] using h
theorem size_same (m : Int) (s : List UInt8) : (digitsV m s).2 = (sizeV m s).2 ∧ ((digitsV m s).2.1 = true → (digitsV m s).1 = (sizeV m s).1) := by
 unfold digitsV sizeV
 by_cases h : pk s = 42
 ·simp [h]
 ·rw [if_neg h, if_neg h]
  have h1 := digR_take 0 false s
  have h2 := digR_siz 0 0 false s (.inl rfl)
  generalize digR 0 false s = q at *
  obtain ⟨n, a, r⟩ := q
  simp only [Prod.mk.injEq] at h1
  obtain ⟨rfl, rfl⟩ := h1
  simp only at h2
  by_cases ht : s.takeWhile isDig = []
  ·simp [ht]
  ·have : (s.takeWhile isDig).isEmpty = false := by simpa using ht
   unfold Two at h2
   simp only [this, if_neg ht]
   generalize sizN 0 (s.takeWhile isDig) = m' at *
   refine ⟨?_, ?_⟩
   ·simp
    omega
   ·simp
    omega
theorem flag_same (f : Fld) (s : List UInt8) : flagR f s = ({ f with
  lf := f.lf || (s.takeWhile isFl).contains 45, ze := f.ze || (s.takeWhile isFl).contains 48, pl := f.pl || (s.takeWhile isFl).contains 43,
  bl := f.bl || (s.takeWhile isFl).contains 32, ha := f.ha || (s.takeWhile isFl).contains 35 }, s.dropWhile isFl) := by
 induction s generalizing f with
 | nil => simp [flagR]
 | cons c r ih =>
  unfold flagR
  by_cases h1 : c = 45
  ·subst h1; rw [if_pos rfl, ih]; simp [isFl]
  rw [if_neg h1]
  by_cases h2 : c = 48
  ·subst h2; rw [if_pos rfl, ih]; simp [isFl]
  rw [if_neg h2]
  by_cases h3 : c = 43
  ·subst h3; rw [if_pos rfl, ih]; simp [isFl]
  rw [if_neg h3]
  by_cases h4 : c = 32
  ·subst h4; rw [if_pos rfl, ih]; simp [isFl]
  rw [if_neg h4]
  by_cases h5 : c = 35
  ·subst h5; rw [if_pos rfl, ih]; simp [isFl]
  rw [if_neg h5]
  have : isFl c = false := by simp [isFl, h1, h2, h3, h4, h5]
  simp [this]
/-! names and fields: both readers read the same -/
def rnameV (s : List UInt8) : Option (List UInt8 × List UInt8) :=
 if pk s ≠ 60 then some ([], s) else
 if s.tail.takeWhile isNm = [] ∨ pk (s.tail.dropWhile isNm) ≠ 62 then none else some (s.tail.takeWhile isNm, (s.tail.dropWhile isNm).tail)
theorem split62 (s : List UInt8) : (∀ c ∈ s, c ≠ 62) ∨ ∃ a b, s = a ++ 62 :: b ∧ ∀ c ∈ a, c ≠ 62 := by
 induction s with
 | nil => left; simp
 | cons c r ih =>
  by_cases hc : c = 62
  ·right; exact ⟨[], r, by simp [hc], by simp⟩
  ·rcases ih with h | ⟨a, b, e, h⟩
   ·left; intro x hx; rcases List.mem_cons.1 hx with rfl | hx
    ·exact hc
    ·exact h x hx
   ·right; exact ⟨c :: a, b, by simp [e], fun x hx => (List.mem_cons.1 hx).elim (fun e => e ▸ hc) (h x)⟩
theorem find62 {a b : List UInt8} (h : ∀ c ∈ a, c ≠ 62) : (a ++ 62 :: b).findIdx (· == 62) = a.length := by
 induction a with
 | nil => simp [List.findIdx_cons]
 | cons c r ih =>
  have hb : (c == 62) = false := by simpa using h c (by simp)
  have := ih fun x hx => h x (by simp [hx])
  simp [List.findIdx_cons, hb, this]
theorem no62 {a : List UInt8} (h : ∀ c ∈ a, c ≠ 62) : a.findIdx (· == 62) = a.length := by
 induction a with
 | nil => rfl
 | cons c r ih =>
  have hb : (c == 62) = false := by simpa using h c (by simp)
  have := ih fun x hx => h x (by simp [hx])
  simp [List.findIdx_cons, hb, this]
theorem take_all {p : UInt8 → Bool} {a b : List UInt8} {c : UInt8} (h : a.all p = true) (hc : p c = false) : (a ++ c :: b).takeWhile p = a ∧ (a ++ c :: b).dropWhile p = c :: b := by
 induction a with
 | nil => simp [hc]
 | cons x r ih =>
  simp only [List.all_cons, Bool.and_eq_true] at h
  have := ih h.2
  simp [h.1, this]
theorem take_some {p : UInt8 → Bool} {a b : List UInt8} (h : a.all p = false) : ∃ x ∈ a, p x = false ∧ (a ++ b).dropWhile p ≠ [] ∧ ((a ++ b).dropWhile p).head? = some x := by
 induction a with
 | nil => simp at h
 | cons x r ih =>
  by_cases hx : p x = true
  ·have h2 : r.all p = false := by simpa [hx] using h
   obtain ⟨y, hy, h3, h4, h5⟩ := ih h2
   exact ⟨y, by simp [hy], h3, by simpa [hx] using h4, by simpa [hx] using h5⟩
  ·exact ⟨x, by simp, by simpa using hx, by simp [hx], by simp [hx]⟩
theorem drop_sub {p : UInt8 → Bool} (s : List UInt8) : ∀ c ∈ s.dropWhile p, c ∈ s := fun _ hc => (List.dropWhile_suffix (p := p)).subset hc
theorem pk_mem {s : List UInt8} {c : UInt8} (h : pk s = c) (hc : c ≠ 0) : c ∈ s := by
 cases s with
 | nil => exact absurd h.symm hc
 | cons a b => simp [pk] at h; simp [h]
theorem name_same (s : List UInt8) : nameV s = rnameV s := by
 unfold nameV rnameV
 by_cases h : pk s = 60
 ·have hh : ¬ pk s ≠ 60 := fun q => q h
  rw [if_neg hh, if_neg hh]
  clear hh
  obtain ⟨t, rfl⟩ : ∃ t, s = 60 :: t := by
   cases s with
   | nil => exact absurd h (by decide)
   | cons a b => simp [pk] at h; exact ⟨b, by rw [h]⟩
  rw [List.tail_cons]
  rcases split62 t with h6 | ⟨a, b, e, h6⟩
  ·have hf : (60 :: t).findIdx (· == 62) = t.length + 1 := by
    rw [no62 (a := 60 :: t) (by intro c hc; exact (List.mem_cons.1 hc).elim (fun h => by rw [h]; decide) (h6 c))]; simp
   rw [hf, if_neg (by simp), if_pos]
   right
   intro q
   exact h6 62 (drop_sub t 62 (pk_mem q (by decide))) rfl
  ·subst e
   have hf : (60 :: (a ++ 62 :: b)).findIdx (· == 62) = a.length + 1 := by
    have := find62 (a := 60 :: a) (b := b) (by intro c hc; exact (List.mem_cons.1 hc).elim (fun h => by rw [h]; decide) (h6 c))
    simpa using this
   rw [hf]
   have e1 : ((60 :: (a ++ 62 :: b)).take (a.length + 1)).drop 1 = a := by simp
   have e2 : (60 :: (a ++ 62 :: b)).drop (a.length + 1 + 1) = b := by
    simp
   dsimp only
   rw [e1, e2]
   by_cases ha : a.all isNm = true
   ·obtain ⟨t1, t2⟩ := take_all (b := b) ha (show isNm 62 = false by decide)
    rw [t1, t2]
    by_cases hn : a = []
    ·subst hn; simp
    ·have hl : 0 < a.length := by cases a with | nil => exact absurd rfl hn | cons _ _ => simp
     rw [if_pos ⟨by simp, by omega, ha⟩, if_neg (by simp [hn, pk])]
     simp
   ·have ha' : a.all isNm = false := by simpa using ha
    obtain ⟨x, hx, h3, h4, h5⟩ := take_some (b := 62 :: b) ha'
    rw [if_neg (by intro q; exact ha q.2.2), if_pos]
    right
    intro q
    have : x = 62 := by
     generalize (a ++ 62 :: b).dropWhile isNm = w at *
     cases w with
     | nil => exact absurd rfl h4
     | cons u v => simp [pk] at q h5; rw [← h5]; exact q
    exact h6 x hx this
 ·rw [if_pos h, if_pos h]
def rfieldV (s : List UInt8) : Option (Rf × List UInt8) :=
 match rnameV s with
 | none => none
 | some (nm, s1) =>
  let w := sizeV (-1) (s1.dropWhile isFl)
  if w.2.1 = false then none else
  let p := if pk w.2.2 = 46 then sizeV 0 w.2.2.tail else (-1, true, w.2.2)
  if p.2.1 = false then none else
  let c := pk p.2.2
  if c ≠ 0 ∧ c ∈ lets ∧ ((w.1 = -2 ∨ p.1 = -2) → nm = []) then some (⟨c, nm, [], s1.takeWhile isFl, w.1, p.1⟩, p.2.2.tail) else none
def toFd (f : Rf) : Fld := ⟨[], f.nm, f.fl.contains 45, f.fl.contains 48, f.fl.contains 43, f.fl.contains 32, f.fl.contains 35, f.wd, f.pr, f.lt⟩
theorem field_same (s : List UInt8) : fieldV s = (rfieldV s).map fun x => (toFd x.1, x.2) := by
 unfold fieldV rfieldV
 rw [name_same]
 cases rnameV s with
 | none => rfl
 | some x =>
  obtain ⟨nm, s1⟩ := x
  simp only [flag_same]
  obtain ⟨w1, w2⟩ := size_same (-1) (s1.dropWhile isFl)
  generalize digitsV (-1) (s1.dropWhile isFl) = w at *
  generalize sizeV (-1) (s1.dropWhile isFl) = w' at *
  rw [← w1]
  by_cases hw : w.2.1 = false
  ·rw [if_pos hw, if_pos hw]; rfl
  ·rw [if_neg hw, if_neg hw]
   have hw' := w2 (by simpa using hw)
   rw [← hw']
   have hp : (precV w.2.2).2 = (if pk w.2.2 = 46 then sizeV 0 w.2.2.tail else (-1, true, w.2.2)).2 ∧ ((precV w.2.2).2.1 = true → (precV w.2.2).1 = (if pk w.2.2 = 46 then sizeV 0 w.2.2.tail else (-1, true, w.2.2)).1) := by
    unfold precV
    split
    ·exact size_same 0 _
    ·exact ⟨rfl, fun _ => rfl⟩
   generalize precV w.2.2 = p at *
   generalize (if pk w.2.2 = 46 then sizeV 0 w.2.2.tail else (-1, true, w.2.2)) = p' at *
   obtain ⟨p1, p2⟩ := hp
   rw [← p1]
   by_cases hq : p.2.1 = false
   ·rw [if_pos hq, if_pos hq]; rfl
   ·rw [if_neg hq, if_neg hq]
    rw [← p2 (by simpa using hq)]
    split
    ·simp [toFd, fd0]
    ·rfl
/-! whole formats: both readers read the same -/
def byF (t : List UInt8) : Rf := ⟨0, [], t, [], -1, -1⟩
def txF (t : List UInt8) : Rf := ⟨0, [], t, [], 0, 0⟩
def rReadF : Nat → List UInt8 → List Rf → Nat → Nat → Option (List Rf × Nat × Nat)
 | 0, _, _, _, _ => none
 | k + 1, s, out, nd, ot =>
  if s = [] then some (out, nd, ot) else
  let n := s.findIdx (· == 37)
  if s.length ≤ n then some (out ++ [txF s], nd, ot) else
  let b := s.drop (n + 1)
  if pk b = 37 then rReadF k b.tail (out ++ [txF (s.take n)] ++ [byF [37]]) nd ot else
  match rfieldV b with
  | none => none
  | some (f, r) => rReadF k r (out ++ [txF (s.take n)] ++ [f]) (if f.nm = [] then nd else nd + 1) (if f.nm = [] then ot + 1 else ot)
def conv1 (f : Rf) : List Fld := if f.lt = 0 then (if f.by' = [] then [] else [fdT f.by']) else [toFd f]
def convL (L : List Rf) : List Fld := L.flatMap conv1
def endV : Option (List Rf × Nat × Nat) → Option (List Fld)
 | none => none
 | some (L, a, b) => if 0 < a ∧ 0 < b then none else some (convL L)
theorem conv_snoc (L : List Rf) (f : Rf) : convL (L ++ [f]) = convL L ++ conv1 f := by simp [convL]
theorem conv_by (t : List UInt8) : conv1 (byF t) = if t = [] then [] else [fdT t] := by
 show (if (0 : UInt8) = 0 then (if t = [] then [] else [fdT t]) else _) = _
 rw [if_pos rfl]
theorem conv_tx (t : List UInt8) : conv1 (txF t) = if t = [] then [] else [fdT t] := by
 show (if (0 : UInt8) = 0 then (if t = [] then [] else [fdT t]) else _) = _
 rw [if_pos rfl]
theorem rfield_lt {s r : List UInt8} {f : Rf} (h : rfieldV s = some (f, r)) : f.lt ≠ 0 ∧ r.length < s.length := by
 constructor
 ·unfold rfieldV at h
  split at h
  ·cases h
  ·simp only at h
   repeat' split at h
   all_goals first | (cases h; done) | skip
   all_goals
    rename_i hc
    cases h
    exact hc.1
 ·exact zJ (s := s) (f := toFd f) (by rw [field_same, h]; rfl)
theorem st_pct {k : Nat} {r : List UInt8} {out : List Fld} {a b : Bool} : readF (k + 1) (37 :: 37 :: r) out a b = readF k r (out ++ [fdT [37]]) a b := by
 rw [readF]
 simp [List.findIdx_cons]
theorem st_fld {k : Nat} {r : List UInt8} {out : List Fld} {a b : Bool} (h : pk r ≠ 37) : readF (k + 1) (37 :: r) out a b = match fieldV r with
  | none => none
  | some (f, r') => readF k r' (out ++ [f]) (a || f.nm != []) (b || f.nm == []) := by
 rw [readF]
 have : r.head? ≠ some 37 := by
  cases r with
  | nil => simp
  | cons x y => simpa [pk] using h
 simp [List.findIdx_cons, this]
 all_goals rfl
theorem st_text {k : Nat} {a r : List UInt8} {out : List Fld} {x y : Bool} (h : ∀ c ∈ a, c ≠ 37) (ha : a ≠ []) : readF (k + 1) (a ++ 37 :: r) out x y = readF k (37 :: r) (out ++ [fdT a]) x y := by
 have hl : 0 < a.length := by cases a with | nil => exact absurd rfl ha | cons _ _ => simp
 rw [readF, find_app h]
 simp [hl, show ¬ a.length + (r.length + 1) ≤ a.length by omega]
theorem read_same : ∀ (n : Nat) (s : List UInt8) (k k' : Nat) (out : List Rf) (nd ot : Nat), s.length ≤ n → s.length < k → s.length < k' →
  readF k s (convL out) (decide (0 < nd)) (decide (0 < ot)) = endV (rReadF k' s out nd ot) := by
 intro n
 induction n with
 | zero =>
  intro s k k' out nd ot hn hk hk'
  have : s = [] := List.length_eq_zero_iff.1 (by omega)
  subst this
  obtain ⟨k, rfl⟩ : ∃ j, k = j + 1 := ⟨k - 1, by omega⟩
  obtain ⟨k', rfl⟩ : ∃ j, k' = j + 1 := ⟨k' - 1, by omega⟩
  rw [readF, rReadF]
  simp [endV]
 | succ n ih =>
  intro s k k' out nd ot hn hk hk'
  obtain ⟨k, rfl⟩ : ∃ j, k = j + 1 := ⟨k - 1, by omega⟩
  obtain ⟨k', rfl⟩ : ∃ j, k' = j + 1 := ⟨k' - 1, by omega⟩
  rcases split37 s with h | ⟨a, b, e, h⟩
  ·rw [readF, rReadF, find_no h]
   by_cases hs : s = []
   ·simp [hs, endV]
   ·simp [hs, endV, conv_snoc, conv_tx]
  ·subst e
   simp only [List.length_append, List.length_cons] at hn hk hk'
   have e1 : (a ++ 37 :: b).take a.length = a := by simp
   have e2 : (a ++ 37 :: b).drop (a.length + 1) = b := by
    rw [← List.drop_drop]; simp
   have R : rReadF (k' + 1) (a ++ 37 :: b) out nd ot = if pk b = 37 then rReadF k' b.tail (out ++ [txF a] ++ [byF [37]]) nd ot else
     match rfieldV b with
     | none => none
     | some (f, r) => rReadF k' r (out ++ [txF a] ++ [f]) (if f.nm = [] then nd else nd + 1) (if f.nm = [] then ot + 1 else ot) := by
    rw [rReadF, find_app h, if_neg (by simp), if_neg (by simp)]
    simp only [e1, e2]
   rw [R]
   have step : ∀ j, b.length + 1 < j + 1 → readF (j + 1) (37 :: b) (convL (out ++ [txF a])) (decide (0 < nd)) (decide (0 < ot)) = endV (if pk b = 37 then rReadF k' b.tail (out ++ [txF a] ++ [byF [37]]) nd ot else
     match rfieldV b with
     | none => none
     | some (f, r) => rReadF k' r (out ++ [txF a] ++ [f]) (if f.nm = [] then nd else nd + 1) (if f.nm = [] then ot + 1 else ot)) := by
    intro j hj
    by_cases hb : pk b = 37
    ·obtain ⟨c, rfl⟩ : ∃ c, b = 37 :: c := by
      cases b with
      | nil => exact absurd hb (by decide)
      | cons x y => simp [pk] at hb; exact ⟨y, by rw [hb]⟩
     rw [if_pos hb, st_pct]
     simp only [List.length_cons] at hj hn hk hk'
     have := ih c j k' (out ++ [txF a] ++ [byF [37]]) nd ot (by omega) (by omega) (by omega)
     rw [conv_snoc _ (byF [37]), conv_by] at this
     simpa using this
    ·rw [if_neg hb, st_fld hb, field_same]
     cases hr : rfieldV b with
     | none => rfl
     | some q =>
      obtain ⟨f, r⟩ := q
      obtain ⟨l1, l2⟩ := rfield_lt hr
      simp only [Option.map_some]
      have := ih r j k' (out ++ [txF a] ++ [f]) (if f.nm = [] then nd else nd + 1) (if f.nm = [] then ot + 1 else ot) (by omega) (by omega) (by omega)
      rw [conv_snoc _ f, show conv1 f = [toFd f] by simp [conv1, l1]] at this
      rw [← this]
      congr 1
      ·by_cases hf : f.nm = [] <;> simp [hf, toFd]
      ·by_cases hf : f.nm = [] <;> simp [hf, toFd]
   by_cases ha : a = []
   ·subst ha
    have := step k (by simp at hk; omega)
    rw [conv_snoc, conv_tx] at this
    simpa using this
   ·have hl : 0 < a.length := by cases a with | nil => exact absurd rfl ha | cons _ _ => simp
    rw [st_text h ha]
    obtain ⟨k, rfl⟩ : ∃ j, k = j + 1 := ⟨k - 1, by omega⟩
    have := step k (by omega)
    rw [conv_snoc, conv_tx, if_neg ha] at this
    exact this
def rReadV (s : List UInt8) : Option (List Rf × Nat × Nat) := if 2000 < s.length then none else rReadF (s.length + 1) s [] 0 0
theorem zu (s : List UInt8) : readV s = endV (rReadV s) := by
 unfold readV rReadV
 split
 ·rfl
 ·exact read_same s.length s _ _ [] 0 0 (Nat.le_refl _) (by omega) (by omega)
/-! how many arguments are taken -/
def cntN (L : List Rf) : Nat := L.countP fun f => f.lt != 0 && f.nm != []
def cntO (L : List Rf) : Nat := L.countP fun f => f.lt != 0 && f.nm == []
theorem cnt_by (t : List UInt8) : cntN [byF t] = 0 ∧ cntO [byF t] = 0 := by simp [cntN, cntO, byF]
theorem cnt_tx (t : List UInt8) : cntN [txF t] = 0 ∧ cntO [txF t] = 0 := by simp [cntN, cntO, txF]
theorem cntN_app (L M : List Rf) : cntN (L ++ M) = cntN L + cntN M := by simp [cntN]
theorem cntO_app (L M : List Rf) : cntO (L ++ M) = cntO L + cntO M := by simp [cntO]
theorem read_cnt : ∀ (k : Nat) (s : List UInt8) (out L : List Rf) (nd ot a b : Nat), rReadF k s out nd ot = some (L, a, b) → nd = cntN out → ot = cntO out → a = cntN L ∧ b = cntO L := by
 intro k
 induction k with
 | zero => intro s out L nd ot a b h; simp [rReadF] at h
 | succ k ih =>
  intro s out L nd ot a b h hn ho
  rw [rReadF] at h
  split at h
  ·cases h; exact ⟨hn, ho⟩
  ·simp only at h
   split at h
   ·cases h
    have := cnt_tx s
    rw [cntN_app, cntO_app, this.1, this.2]; exact ⟨by omega, by omega⟩
   ·split at h
    ·refine ih _ _ _ _ _ _ _ h ?_ ?_
     ·rw [cntN_app, cntN_app, (cnt_by _).1, (cnt_tx _).1]; omega
     ·rw [cntO_app, cntO_app, (cnt_by _).2, (cnt_tx _).2]; omega
    ·split at h
     ·cases h
     ·rename_i f r hr
      have hl := (rfield_lt hr).1
      refine ih _ _ _ _ _ _ _ h ?_ ?_
      ·rw [cntN_app, cntN_app, (cnt_tx _).1]
       by_cases hf : f.nm = [] <;> simp [cntN, hf, hl, hn]
      ·rw [cntO_app, cntO_app, (cnt_tx _).2]
       by_cases hf : f.nm = [] <;> simp [cntO, hf, hl, ho]
def fld1 (f : Fld) : Nat := if f.lt = 0 ∨ f.nm ≠ [] then 0 else 1 + (if f.wd = -2 then 1 else 0) + (if f.pr = -2 then 1 else 0)
def fldsV (L : List Fld) : Nat := (L.map fld1).sum
def rfld1 (f : Rf) : Nat := if f.lt = 0 then 0 else 1 + (if f.wd = -2 then 1 else 0) + (if f.pr = -2 then 1 else 0)
def rfldsV (L : List Rf) : Nat := (L.map rfld1).sum
theorem conv_named {f : Rf} (h : f.lt ≠ 0 → f.nm ≠ []) : fldsV (conv1 f) = 0 := by
 unfold conv1
 split
 ·split
  ·rfl
  ·simp [fldsV, fld1, fdT]
 ·rename_i hl
  simp [fldsV, fld1, toFd, h hl]
theorem conv_plain {f : Rf} (h : f.lt ≠ 0 → f.nm = []) : fldsV (conv1 f) = rfld1 f := by
 unfold conv1 rfld1
 split
 ·split
  ·rfl
  ·simp [fldsV, fld1, fdT]
 ·rename_i hl
  simp [fldsV, fld1, toFd, h hl, hl]
theorem flds_app (L M : List Fld) : fldsV (L ++ M) = fldsV L + fldsV M := by simp [fldsV]
theorem flds_named (L : List Rf) (h : cntO L = 0) : fldsV (convL L) = 0 := by
 induction L with
 | nil => rfl
 | cons f L ih =>
  have e : cntO (f :: L) = cntO [f] + cntO L := cntO_app [f] L
  have e2 : convL (f :: L) = conv1 f ++ convL L := by simp [convL]
  rw [e2, flds_app, ih (by omega), conv_named]
  intro hl hn
  have : cntO [f] = 1 := by simp [cntO, hl, hn]
  omega
theorem flds_plain (L : List Rf) (h : cntN L = 0) : fldsV (convL L) = rfldsV L := by
 induction L with
 | nil => rfl
 | cons f L ih =>
  have e : cntN (f :: L) = cntN [f] + cntN L := cntN_app [f] L
  have e2 : convL (f :: L) = conv1 f ++ convL L := by simp [convL]
  have e3 : rfldsV (f :: L) = rfld1 f + rfldsV L := by simp [rfldsV]
  rw [e2, flds_app, ih (by omega), e3, conv_plain]
  intro hl
  refine Classical.byContradiction fun hn => ?_
  have : cntN [f] = 1 := by simp [cntN, hl, hn]
  omega
/-! whole numbers at a base: digits written and read -/
def digB (b n : Nat) : List Nat := if h : n < b ∨ b < 2 then [n] else digB b (n / b) ++ [n % b]
termination_by n
decreasing_by
 have h1 : ¬ n < b := fun q => h (.inl q)
 have h2 : ¬ b < 2 := fun q => h (.inr q)
 exact Nat.div_lt_self (by omega) (by omega)
def chB (d : Nat) : UInt8 := if d < 10 then UInt8.ofNat (48 + d) else UInt8.ofNat (87 + d)
def txtB (b n : Nat) : List UInt8 := (digB b n).map chB
def showB (b : Nat) (n : Int) : List UInt8 := if n < 0 then 45 :: txtB b n.natAbs else txtB b n.natAbs
theorem digB_small {b n : Nat} (h : n < b) : digB b n = [n] := by rw [digB]; simp [h]
theorem digB_step {b n : Nat} (hb : 2 ≤ b) (h : b ≤ n) : digB b n = digB b (n / b) ++ [n % b] := by
 rw [digB, dif_neg (by omega)]
theorem digB_ind {b : Nat} (hb : 2 ≤ b) {p : Nat → Prop} (h0 : ∀ n, n < b → p n) (h1 : ∀ n, b ≤ n → p (n / b) → p n) : ∀ n, p n := by
 intro n
 induction n using Nat.strongRecOn with
 | _ n ih =>
  by_cases h : n < b
  ·exact h0 n h
  ·exact h1 n (by omega) (ih _ (Nat.div_lt_self (by omega) (by omega)))
theorem digB_lt {b : Nat} (hb : 2 ≤ b) (n : Nat) : ∀ d ∈ digB b n, d < b := by
 refine digB_ind hb (p := fun n => ∀ d ∈ digB b n, d < b) (fun n h => ?_) (fun n h ih => ?_) n
 ·rw [digB_small h]; simpa using h
 ·rw [digB_step hb h]
  intro d hd
  rcases List.mem_append.1 hd with hd | hd
  ·exact ih d hd
  ·rw [List.mem_singleton.1 hd]; exact Nat.mod_lt _ (by omega)
theorem digB_ne (b n : Nat) : digB b n ≠ [] := by
 rw [digB]; split <;> simp
theorem digB_len {b : Nat} (hb : 2 ≤ b) (k n : Nat) (h : n < b ^ (k + 1)) : (digB b n).length ≤ k + 1 := by
 induction k generalizing n with
 | zero => rw [digB_small (by simpa using h)]; simp
 | succ k ih =>
  by_cases hn : n < b
  ·rw [digB_small hn]; simp
  ·rw [digB_step hb (by omega)]
   have : n / b < b ^ (k + 1) := Nat.div_lt_of_lt_mul (by rw [Nat.pow_succ] at h; rw [Nat.mul_comm]; exact h)
   have := ih _ this
   simp; omega
/-! what a field is filled with: the program's way -/
structure Ag where
 nm : List UInt8
 is : Bool
 int : Int
 tx : List UInt8
def rep (c : UInt8) (n : Int) : List UInt8 := List.replicate n.toNat c
def shortV (f : Fld) (s : List UInt8) : List UInt8 := if 0 ≤ f.pr ∧ f.pr < s.length then s.take f.pr.toNat else s
def paddedV (f : Fld) (s : List UInt8) : List UInt8 :=
 if f.wd - s.length ≤ 0 then s else if f.lf then s ++ rep 32 (f.wd - s.length) else rep 32 (f.wd - s.length) ++ s
def baseV (c : UInt8) : Nat := if c = 100 then 10 else if c = 111 then 8 else if c = 98 then 2 else 16
def upC (c : UInt8) : UInt8 := if 97 ≤ c ∧ c ≤ 122 then c - 32 else c
def textV (a : Ag) : List UInt8 := if a.is then a.tx else showB 10 a.int
def digsV (f : Fld) (n : Int) : List UInt8 :=
 let d := txtB (baseV f.lt) n.natAbs
 let d := if f.lt = 88 then d.map upC else d
 let d := if f.pr = 0 ∧ n = 0 then [] else d
 if 0 < f.pr - d.length then rep 48 (f.pr - d.length) ++ d else d
def signV (f : Fld) (n : Int) : List UInt8 := if n < 0 then [45] else if f.pl then [43] else if f.bl then [32] else []
def preV (c : UInt8) (d : List UInt8) : List UInt8 :=
 if c = 120 then [48, 120] else if c = 88 then [48, 88] else if c = 98 then [48, 98] else if c = 111 ∧ d.head? ≠ some 48 then [48] else []
def numV (f : Fld) (n : Int) : List UInt8 :=
 let d := digsV f n
 let fr := signV f n ++ (if f.ha ∧ n ≠ 0 ∧ f.lt ≠ 100 then preV f.lt d else [])
 let m := f.wd - fr.length - d.length
 let d := if f.ze ∧ f.pr < 0 ∧ f.lf = false ∧ 0 < m then rep 48 m ++ d else d
 paddedV f (fr ++ d)
/-! columns: widths and lines -/
/-! filling: stars, the argument of a field, a field, a format (errors by their numbers: 0 none, 1 ErrArg, 4 ErrForm, 6 ErrName, 14 ErrEnd) -/
def starW (args : List Ag) (u : Nat) (f : Fld) : Nat × Nat × Fld :=
 if f.wd ≠ -2 then (0, u, f) else
 match args[u]? with
 | none => (14, u, f)
 | some a => if a.is ∨ 1000 < a.int ∨ a.int < -1000 then (1, u + 1, f) else (0, u + 1, if a.int < 0 then { f with wd := -a.int, lf := true } else { f with wd := a.int })
def starP (args : List Ag) (u : Nat) (f : Fld) : Nat × Nat × Fld :=
 if f.pr ≠ -2 then (0, u, f) else
 match args[u]? with
 | none => (14, u, f)
 | some a => if a.is ∨ 1000 < a.int then (1, u + 1, f) else (0, u + 1, if a.int < 0 then { f with pr := -1 } else { f with pr := a.int })
def starsV (args : List Ag) (u : Nat) (f : Fld) : Nat × Nat × Fld :=
 let w := starW args u f
 if w.1 ≠ 0 then w else starP args w.2.1 w.2.2
def ag0 : Ag := ⟨[], false, 0, []⟩
def ofA (args : List Ag) (u : Nat) (nm : List UInt8) : Ag × Nat × Nat :=
 if nm = [] then (match args[u]? with | none => (ag0, 14, u) | some a => (a, 0, u + 1))
 else (match args.find? (fun a => a.nm == nm) with | none => (ag0, 6, u) | some a => (a, 0, u))
def decN (s : List UInt8) : Nat := s.foldl (fun n c => 10 * n + (c.toNat - 48)) 0
def numA (a : Ag) : Option Int :=
 if a.is = false then some a.int else
 let s := if a.tx.head? = some 45 then a.tx.tail else a.tx
 if s = [] ∨ 18 < s.length ∨ (s.head? = some 48 ∧ 1 < s.length) ∨ s.all isDig = false then none else some (if a.tx.head? = some 45 then -(decN s : Int) else decN s)
def quoC (c : UInt8) : List UInt8 := if c = 92 ∨ c = 34 then [92, c] else if c = 10 then [92, 110] else [c]
def quoV (s : List UInt8) : List UInt8 := 34 :: s.flatMap quoC ++ [34]
def putV (f : Fld) (a : Ag) : Option (List UInt8) :=
 if f.lt = 115 then some (paddedV f (shortV f (textV a)))
 else if f.lt = 112 then some (paddedV f (shortV f (quoV (textV a))))
 else if f.lt = 99 then
  (if a.is then (if a.tx = [] then none else some (paddedV f (a.tx.take 1))) else if a.int < 0 ∨ 255 < a.int then none else some (paddedV f [UInt8.ofNat a.int.toNat]))
 else (numA a).map (numV f)
def fillV (args : List Ag) (u : Nat) (f : Fld) : List UInt8 × Nat × Nat :=
 if f.lt = 0 then (f.tx, 0, u) else
 let s := starsV args u f
 if s.1 ≠ 0 then ([], s.1, s.2.1) else
 let o := ofA args s.2.1 f.nm
 if o.2.1 ≠ 0 then ([], o.2.1, o.2.2) else
 match putV s.2.2 o.1 with
 | none => ([], 1, o.2.2)
 | some t => (t, 0, o.2.2)
def fillsV (args : List Ag) : List Fld → Nat → List UInt8 → List UInt8 × Nat × Nat
 | [], u, out => (out, u, 0)
 | f :: L, u, out =>
  let q := fillV args u f
  if q.2.1 ≠ 0 then ([], 0, q.2.1) else
  if 100000 < (out ++ q.1).length then ([], 0, 1) else fillsV args L q.2.2 (out ++ q.1)
def runV (form : List UInt8) (args : List Ag) : List UInt8 × Nat × Nat :=
 match readV form with
 | none => ([], 0, 4)
 | some L => fillsV args L 0 []
end Go.Fm
namespace Go.Fm
set_option maxRecDepth 20000
/-! the formats of FormatBack and of the examples, read and filled -/
def agI (n : Int) : Ag := ⟨[], false, n, []⟩
theorem txt_len {b : Nat} (hb : 2 ≤ b) {n : Nat} (h : n < 2 ^ 64) : (txtB b n).length ≤ 64 := by
 unfold txtB
 rw [List.length_map]
 refine digB_len hb 63 n (Nat.lt_of_lt_of_le h (Nat.pow_le_pow_left hb 64))
theorem sane1 : runV [37, 48, 53, 100] [agI (-42)] = ([45, 48, 48, 52, 50], 1, 0) := by decide +kernel
theorem sane2 : runV [37, 35, 120] [agI 255] = ([48, 120, 102, 102], 1, 0) := by decide +kernel
theorem sane3 : runV [37, 45, 52, 115, 124] [⟨[], true, 0, [97, 98]⟩] = ([97, 98, 32, 32, 124], 1, 0) := by decide +kernel
end Go.Fm
namespace Go.Fm
/-! a number at a base is read back -/
theorem txtB_ne (b n : Nat) : txtB b n ≠ [] := by
 unfold txtB
 simp [digB_ne]
theorem chB_sign : ∀ d, d < 16 → chB d ≠ 45 ∧ chB d ≠ 43 := by decide
theorem txtB_head {b : Nat} (hb : 2 ≤ b) (hb2 : b ≤ 16) (n : Nat) : (txtB b n).head? ≠ some 45 ∧ (txtB b n).head? ≠ some 43 := by
 have hl := digB_lt hb n
 unfold txtB
 generalize digB b n = l at *
 cases l with
 | nil => simp
 | cons d r =>
  have := chB_sign d (Nat.lt_of_lt_of_le (hl d (by simp)) hb2)
  simpa using this
end Go.Fm
set_option linter.unusedSectionVars false
namespace Go.Eng
variable {P : Program} [HasGlob P]
/-! regions whose order is drawn -/
section
variable {ops : Array Oper} {Q : Exit → Act → World → Prop} {W : World → Prop}
def clear (G : List Nat) (L : Array Bool) : Bool := G.all fun g => !(L.getD g false)
def wpAnyT (P : Program) (ops : Array Oper) (Q : Exit → Act → World → Prop) (T : Array Bool → World → Prop) : Nat → Array Bool → Act → World → Prop
 | 0, L, a, w => Region.ready .any ops L = [] ∧ Q .normal a w
 | fuel + 1, L, a, w =>
  (Region.ready .any ops L = [] → Q .normal a w) ∧
  ∀ i ∈ Region.ready .any ops L, wpOp P ops Q i (fun a' w' => T (L.setIfInBounds i true) w' ∧ wpAnyT P ops Q T fuel (L.setIfInBounds i true) a' w') a w
theorem wpAny_of_T {T : Array Bool → World → Prop} : ∀ (fuel : Nat) (L : Array Bool) (a : Act) (w : World), wpAnyT P ops Q T fuel L a w → wpAny P .any ops Q fuel L a w
 | 0, _, _, _, h => h
 | fuel + 1, _, _, _, h => ⟨h.1, fun i hi => wpOp_mono (fun a' w' h' => wpAny_of_T fuel _ a' w' h'.2) (h.2 i hi)⟩
theorem wpAnyT_mono {T T' : Array Bool → World → Prop} {i : Nat} (hT : ∀ L w, L.getD i false = true → T' L w → T L w) : ∀ (fuel : Nat) (L : Array Bool) (a : Act) (w : World), L.getD i false = true → wpAnyT P ops Q T' fuel L a w → wpAnyT P ops Q T fuel L a w
 | 0, _, _, _, _, h => h
 | fuel + 1, L, _, _, hi, h => ⟨h.1, fun j hj => wpOp_mono (fun a' w' h' => ⟨hT _ _ (getD_set_true hi) h'.1, wpAnyT_mono hT fuel _ a' w' (getD_set_true hi) h'.2⟩) (h.2 j hj)⟩
theorem wpAnyT_mono' {T T' : Array Bool → World → Prop} (hT : ∀ L w, T' L w → T L w) : ∀ (fuel : Nat) (L : Array Bool) (a : Act) (w : World), wpAnyT P ops Q T' fuel L a w → wpAnyT P ops Q T fuel L a w
 | 0, _, _, _, h => h
 | fuel + 1, L, _, _, h => ⟨h.1, fun j hj => wpOp_mono (fun a' w' h' => ⟨hT _ _ h'.1, wpAnyT_mono' hT fuel _ a' w' h'.2⟩) (h.2 j hj)⟩
def Valid (ops : Array Oper) (L : Array Bool) : Prop := ∀ k o, ops[k]? = some o → L.getD k false = true → ∀ e ∈ o.after, Region.binds .any e = true → L.getD e.on false = true
def reach (ops : Array Oper) (p : Nat) : Nat → Nat → Bool
 | 0, _ => false
 | f + 1, g => match ops[g]? with
  | some o => o.after.any fun e => Region.binds .any e && (e.on == p || reach ops p f e.on)
  | none => false
theorem reach_listed {L : Array Bool} (hv : Valid ops L) {p : Nat} : ∀ f g o, ops[g]? = some o → reach ops p f g = true → (∀ e ∈ o.after, Region.binds .any e = true → L.getD e.on false = true) → L.getD p false = true := by
 intro f
 induction f with
 | zero => intro g o _ h; simp [reach] at h
 | succ f ih =>
  intro g o ho h hall
  simp only [reach, ho] at h
  obtain ⟨e, he, hb⟩ := Array.any_eq_true'.1 h
  simp only [Bool.and_eq_true, Bool.or_eq_true, beq_iff_eq] at hb
  have hl := hall e he hb.1
  rcases hb.2 with hp | hr
  ·rw [← hp]; exact hl
  ·cases ho' : ops[e.on]? with
   | none =>
    cases f with
    | zero => simp [reach] at hr
    | succ f => simp [reach, ho'] at hr
   | some o' => exact ih e.on o' ho' hr (hv e.on o' ho' hl)
theorem Valid.set {L : Array Bool} (hv : Valid ops L) {i : Nat} (hi : i ∈ Region.ready .any ops L) : Valid ops (L.setIfInBounds i true) := by
 intro k o ho hk e he hb
 obtain ⟨_, oi, hoi, hall⟩ := mem_ready.1 hi
 by_cases hki : i = k
 ·subst hki
  rw [ho] at hoi
  simp only [Option.some.injEq] at hoi
  subst hoi
  exact getD_set_true (hall e he hb)
 ·rw [getD_set_ne false hki] at hk
  exact getD_set_true (hv k o ho hk e he hb)
theorem clear_set {G : List Nat} {L : Array Bool} {i : Nat} (hi : i ∉ G) : clear G (L.setIfInBounds i true) = clear G L := by
 unfold clear
 rw [Bool.eq_iff_iff, List.all_eq_true, List.all_eq_true]
 constructor
 ·intro h g hg
  have := h g hg
  rwa [getD_set_ne false (fun e => hi (by rw [e]; exact hg))] at this
 ·intro h g hg
  rw [getD_set_ne false (fun e => hi (by rw [e]; exact hg))]
  exact h g hg
theorem setC {L : Array Bool} {i j : Nat} (h : j ≠ i) : (L.setIfInBounds j true).setIfInBounds i true = (L.setIfInBounds i true).setIfInBounds j true := Array.setIfInBounds_comm _ _ h
theorem wpAnyT_first {i : Nat} {oi : Oper} {v : Value} {T : Array Bool → World → Prop} (hi : ops[i]? = some oi) (hT : ∀ L w, T (L.setIfInBounds i true) w → T L w) (hsel : ∀ (j : Nat) (o : Oper) cs b, ops[j]? = some o → o.op ≠ .select cs b)
  (hQ : ∀ c a w, Q (.panic c) (a.put oi.dst v) w → Q (.panic c) a w) {V : World → Prop} (hV : ∀ L w, Valid ops L → L.getD i false = false → T L w → V w) :
  ∀ (fuel : Nat) (L : Array Bool) (a : Act) (w : World),
   (∀ j oj, ops[j]? = some oj → j ≠ i → L.getD j true = false → (∀ e ∈ oj.after, Region.binds .any e = true → e.on ≠ i) → oi.apart ops oj = true) →
   Valid ops L → i ∈ Region.ready .any ops L → YieldsIf P ops V oi v a → V w →
   wpAnyT P ops Q T fuel (L.setIfInBounds i true) (a.put oi.dst v) w → T (L.setIfInBounds i true) w → wpAnyT P ops Q T (fuel + 1) L a w := by
 intro fuel
 induction fuel with
 | zero =>
  intro L a w _ _ hr hy hS H hW
  refine ⟨fun h => (by rw [h] at hr; cases hr), fun j hj => ?_⟩
  by_cases hji : j = i
  ·subst hji; exact hy.wpOp hi hS ⟨hW, H⟩
  ·have := ready_mono hj hji
   rw [H.1] at this
   cases this
 | succ fuel ih =>
  intro L a w hfree hv hr hy hS H hW
  refine ⟨fun h => (by rw [h] at hr; cases hr), fun j hj => ?_⟩
  by_cases hji : j = i
  ·subst hji; exact hy.wpOp hi hS ⟨hW, H⟩
  ·have h1 := H.2 j (ready_mono hj hji)
   obtain ⟨hjun, oj, hoj, hall⟩ := mem_ready.1 hj
   have hil : L.getD i false = false := by
    have h0 := (mem_ready.1 hr).1
    rcases Nat.lt_or_ge i L.size with h' | h'
    ·simp [h'] at h0 ⊢; exact h0
    ·simp [Array.getElem?_eq_none h']
   have hnot : ∀ e ∈ oj.after, Region.binds .any e = true → e.on ≠ i := fun e he hb heq => by
    have h1 := hall e he hb
    rw [heq, hil] at h1
    cases h1
   have h2 := wpOp_putIf hoj (hfree j oj hoj hji hjun hnot) (fun cs b => hsel i oi cs b hi) (fun cs b => hsel j oj cs b hoj) hQ hy h1
   have hfree' : ∀ k ok, ops[k]? = some ok → k ≠ i → (L.setIfInBounds j true).getD k true = false →
     (∀ e ∈ ok.after, Region.binds .any e = true → e.on ≠ i) → oi.apart ops ok = true := fun k ok hk hki hun hno => by
    refine hfree k ok hk hki ?_ hno
    by_cases hjk : j = k
    ·subst hjk; exact hjun
    ·rw [getD_set_ne true hjk] at hun; exact hun
   refine wpOp_mono (fun a' w' h3 => ?_) h2
   have hW' : T (L.setIfInBounds j true) w' := hT _ _ (by rw [setC hji]; exact h3.2.1)
   have hil' : (L.setIfInBounds j true).getD i false = false := by rw [getD_set_ne false hji]; exact hil
   exact ⟨hW', ih (L.setIfInBounds j true) a' w' hfree' (hv.set hj) (ready_mono hr (Ne.symm hji)) h3.1 (hV _ _ (hv.set hj) hil' hW') (by rw [setC hji]; exact h3.2.2)
    (by rw [setC hji]; exact h3.2.1)⟩
theorem wpAnyT_only {i : Nat} {T : Array Bool → World → Prop} {fuel : Nat} {L : Array Bool} {a : Act} {w : World} (hr : Region.ready .any ops L = [i])
  (h : wpOp P ops Q i (fun a' w' => T (L.setIfInBounds i true) w' ∧ wpAnyT P ops Q T fuel (L.setIfInBounds i true) a' w') a w) : wpAnyT P ops Q T (fuel + 1) L a w :=
 ⟨fun h0 => (by rw [hr] at h0; cases h0), fun j hj => (by rw [hr] at hj; simp at hj; subst hj; exact h)⟩
theorem wpAnyT_two {i j : Nat} {T : Array Bool → World → Prop} {fuel : Nat} {L : Array Bool} {a : Act} {w : World} (hr : Region.ready .any ops L = [i, j])
  (h : wpOp P ops Q i (fun a' w' => T (L.setIfInBounds i true) w' ∧ wpAnyT P ops Q T fuel (L.setIfInBounds i true) a' w') a w)
  (h' : wpOp P ops Q j (fun a' w' => T (L.setIfInBounds j true) w' ∧ wpAnyT P ops Q T fuel (L.setIfInBounds j true) a' w') a w) : wpAnyT P ops Q T (fuel + 1) L a w :=
 ⟨fun h0 => (by rw [hr] at h0; cases h0), fun k hk => (by
  rw [hr] at hk
  simp only [List.mem_cons, List.not_mem_nil, or_false] at hk
  rcases hk with rfl | rfl
  ·exact h
  ·exact h')⟩
theorem wpAnyT_three {i j k : Nat} {T : Array Bool → World → Prop} {fuel : Nat} {L : Array Bool} {a : Act} {w : World} (hr : Region.ready .any ops L = [i, j, k])
  (hi : wpOp P ops Q i (fun a' w' => T (L.setIfInBounds i true) w' ∧ wpAnyT P ops Q T fuel (L.setIfInBounds i true) a' w') a w)
  (hj : wpOp P ops Q j (fun a' w' => T (L.setIfInBounds j true) w' ∧ wpAnyT P ops Q T fuel (L.setIfInBounds j true) a' w') a w)
  (hk : wpOp P ops Q k (fun a' w' => T (L.setIfInBounds k true) w' ∧ wpAnyT P ops Q T fuel (L.setIfInBounds k true) a' w') a w) : wpAnyT P ops Q T (fuel + 1) L a w :=
 ⟨fun h0 => (by rw [hr] at h0; cases h0), fun q hk => (by
  rw [hr] at hk
  simp only [List.mem_cons, List.not_mem_nil, or_false] at hk
  rcases hk with rfl | rfl | rfl
  ·exact hi
  ·exact hj
  ·exact hk)⟩
theorem wpAnyT_four {i j k l : Nat} {T : Array Bool → World → Prop} {fuel : Nat} {L : Array Bool} {a : Act} {w : World} (hr : Region.ready .any ops L = [i, j, k, l])
  (hi : wpOp P ops Q i (fun a' w' => T (L.setIfInBounds i true) w' ∧ wpAnyT P ops Q T fuel (L.setIfInBounds i true) a' w') a w)
  (hj : wpOp P ops Q j (fun a' w' => T (L.setIfInBounds j true) w' ∧ wpAnyT P ops Q T fuel (L.setIfInBounds j true) a' w') a w)
  (hk : wpOp P ops Q k (fun a' w' => T (L.setIfInBounds k true) w' ∧ wpAnyT P ops Q T fuel (L.setIfInBounds k true) a' w') a w)
  (hl : wpOp P ops Q l (fun a' w' => T (L.setIfInBounds l true) w' ∧ wpAnyT P ops Q T fuel (L.setIfInBounds l true) a' w') a w) : wpAnyT P ops Q T (fuel + 1) L a w :=
 ⟨fun h0 => (by rw [hr] at h0; cases h0), fun q hk => (by
  rw [hr] at hk
  simp only [List.mem_cons, List.not_mem_nil, or_false] at hk
  rcases hk with rfl | rfl | rfl | rfl
  ·exact hi
  ·exact hj
  ·exact hk
  ·exact hl)⟩
theorem wpAnyT_done {T : Array Bool → World → Prop} {L : Array Bool} {a : Act} {w : World} (hr : Region.ready .any ops L = []) (h : Q .normal a w) : ∀ fuel, wpAnyT P ops Q T fuel L a w
 | 0 => ⟨hr, h⟩
 | _ + 1 => ⟨fun _ => h, by rw [hr]; simp⟩
end
end Go.Eng
