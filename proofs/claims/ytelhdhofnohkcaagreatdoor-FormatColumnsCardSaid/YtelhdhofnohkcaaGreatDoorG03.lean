/- Part of a proof: see the last text. -/
import Derived.Test.YtelhdhofnohkcaaGreatDoorG02
import Derived.Test.YtelhdhofnohkcaaGreatDoorProg
import Derived.OrdersHeld
set_option linter.unusedVariables false
set_option linter.unusedSimpArgs false
namespace Go.Proofs.YtelhdhofnohkcaaGreatDoor
open Go.Eng
@[go_sem] theorem ct4 : cellTys Tryz.prog 4 = [none] := by kernel_rfl
@[go_sem] theorem bl25 : bldOf Tryz.prog 25 = some ([(0, 1), (1, 1), (2, 1), (3, 1)], [.string ⟨#[]⟩, .bool false, .int .i64 0, .string ⟨#[]⟩]) := by kernel_rfl
@[go_sem] theorem sl26 : slOf Tryz.prog 26 = some (25, 4, 48) := by kernel_rfl
@[go_sem] theorem zr25 : zeroOf Tryz.prog 25 = some [.string ⟨#[]⟩, .bool false, .int .i64 0, .string ⟨#[]⟩] := by kernel_rfl
@[go_sem] theorem un22 : Tryz.prog.underlying 22 = some (.slice 30) := by kernel_rfl
@[go_sem] theorem sl22 : slOf Tryz.prog 22 = some (30, 7, 64) := by kernel_rfl
@[go_sem] theorem zr30 : zeroOf Tryz.prog 30 = some [.int .i64 0, .int .i64 0, .int .i64 0, .int .i64 0, .int .i64 0, .int .i64 0, .string ⟨#[]⟩] := by kernel_rfl
@[go_sem] theorem un3 : Tryz.prog.underlying 3 = some (.int .i64) := by kernel_rfl
@[go_sem] theorem ty30 : tyOf Tryz.prog 30 = some (true, 7) := by kernel_rfl
@[go_sem] theorem ct30 : cellTys Tryz.prog 30 = [none, none, none, none, none, none, none] := by kernel_rfl
@[go_sem] theorem un9 : Tryz.prog.underlying 9 = some (.string) := by kernel_rfl
@[go_sem] theorem un26 : Tryz.prog.underlying 26 = some (.slice 25) := by kernel_rfl
@[go_sem] theorem fl25_0 : fldOf Tryz.prog 25 0 = some (0, false, 1) := by kernel_rfl
@[go_sem] theorem ty9 : tyOf Tryz.prog 9 = some (false, 1) := by kernel_rfl
@[go_sem] theorem un23 : Tryz.prog.underlying 23 = some (.slice 9) := by kernel_rfl
@[go_sem] theorem sl23 : slOf Tryz.prog 23 = some (9, 1, 16) := by kernel_rfl
@[go_sem] theorem zr9 : zeroOf Tryz.prog 9 = some [.string ⟨#[]⟩] := by kernel_rfl
@[go_sem] theorem ct9 : cellTys Tryz.prog 9 = [none] := by kernel_rfl
@[go_sem] theorem ct26 : cellTys Tryz.prog 26 = [some 4] := by kernel_rfl
@[go_sem] theorem un34 : Tryz.prog.underlying 34 = some (.int .i64) := by kernel_rfl
@[go_sem] theorem un4 : Tryz.prog.underlying 4 = some (.bool) := by kernel_rfl
@[go_sem] theorem un39 : Tryz.prog.underlying 39 = some (.int .u64) := by kernel_rfl
@[go_sem] theorem bs3_39 : bytesOf Tryz.prog 3 39 = none := by kernel_rfl
@[go_sem] theorem bs39_3 : bytesOf Tryz.prog 39 3 = none := by kernel_rfl
@[go_sem] theorem fl30_3 : fldOf Tryz.prog 30 3 = some (3, false, 1) := by kernel_rfl
@[go_sem] theorem ty3 : tyOf Tryz.prog 3 = some (false, 1) := by kernel_rfl
@[go_sem] theorem fl30_4 : fldOf Tryz.prog 30 4 = some (4, false, 1) := by kernel_rfl
@[go_sem] theorem fl30_6 : fldOf Tryz.prog 30 6 = some (6, false, 1) := by kernel_rfl
@[go_sem] theorem bl30 : bldOf Tryz.prog 30 = some ([(0, 1), (1, 1), (2, 1), (3, 1), (4, 1), (5, 1), (6, 1)], [.int .i64 0, .int .i64 0, .int .i64 0, .int .i64 0, .int .i64 0, .int .i64 0, .string ⟨#[]⟩]) := by kernel_rfl
@[go_sem] theorem ct3 : cellTys Tryz.prog 3 = [none] := by kernel_rfl
@[go_sem] theorem sl42 : slOf Tryz.prog 42 = some (3, 1, 8) := by kernel_rfl
@[go_sem] theorem zr3 : zeroOf Tryz.prog 3 = some [.int .i64 0] := by kernel_rfl
@[go_sem] theorem un48 : Tryz.prog.underlying 48 = some (.slice 23) := by kernel_rfl
@[go_sem] theorem sl48 : slOf Tryz.prog 48 = some (23, 1, 24) := by kernel_rfl
@[go_sem] theorem zr23 : zeroOf Tryz.prog 23 = some [.slice none 0 0] := by kernel_rfl
@[go_sem] theorem ty23 : tyOf Tryz.prog 23 = some (false, 1) := by kernel_rfl
@[go_sem] theorem ct48 : cellTys Tryz.prog 48 = [some 1] := by kernel_rfl
@[go_sem] theorem ct23 : cellTys Tryz.prog 23 = [some 1] := by kernel_rfl
@[go_sem] theorem fl30_5 : fldOf Tryz.prog 30 5 = some (5, false, 1) := by kernel_rfl
@[go_sem] theorem fl30_0 : fldOf Tryz.prog 30 0 = some (0, false, 1) := by kernel_rfl
@[go_sem] theorem fl30_1 : fldOf Tryz.prog 30 1 = some (1, false, 1) := by kernel_rfl
@[go_sem] theorem fl30_2 : fldOf Tryz.prog 30 2 = some (2, false, 1) := by kernel_rfl
@[go_sem] theorem ty25 : tyOf Tryz.prog 25 = some (true, 4) := by kernel_rfl
@[go_sem] theorem fl25_3 : fldOf Tryz.prog 25 3 = some (3, false, 1) := by kernel_rfl
@[go_sem] theorem fl25_1 : fldOf Tryz.prog 25 1 = some (1, false, 1) := by kernel_rfl
@[go_sem] theorem ty4 : tyOf Tryz.prog 4 = some (false, 1) := by kernel_rfl
@[go_sem] theorem ct57 : cellTys Tryz.prog 57 = [some 4] := by kernel_rfl
@[go_sem] theorem ct34 : cellTys Tryz.prog 34 = [none] := by kernel_rfl
@[go_sem] theorem ct2 : cellTys Tryz.prog 2 = [none] := by kernel_rfl
@[go_sem] theorem ct44 : cellTys Tryz.prog 44 = [none] := by kernel_rfl
@[go_sem] theorem un42 : Tryz.prog.underlying 42 = some (.slice 3) := by kernel_rfl
@[go_sem] theorem zr70 : zeroOf Tryz.prog 70 = some [.pointer none, .slice none 0 0] := by kernel_rfl
@[go_sem] theorem ct70 : cellTys Tryz.prog 70 = [none, some 1] := by kernel_rfl
@[go_sem] theorem zr75 : zeroOf Tryz.prog 75 = some [.int .i64 0, .int .i64 0, .int .i64 0, .int .i64 0, .int .i64 0, .int .i64 0, .int .i64 0, .int .i64 0, .int .i64 0, .int .i64 0, .int .i64 0, .int .i64 0, .int .i64 0, .int .i64 0, .int .i64 0, .int .i64 0, .int .i64 0, .int .i64 0, .int .i64 0, .int .i64 0, .int .i64 0, .int .i64 0, .int .i64 0, .int .i64 0, .int .i64 0, .int .i64 0, .int .i64 0, .int .i64 0, .int .i64 0, .int .i64 0, .int .i64 0, .int .i64 0, .int .i64 0, .int .i64 0, .int .i64 0, .int .i64 0, .int .i64 0, .int .i64 0, .int .i64 0, .int .i64 0, .int .i64 0, .int .i64 0, .int .i64 0, .int .i64 0, .int .i64 0, .int .i64 0, .int .i64 0, .int .i64 0, .int .i64 0, .int .i64 0, .int .i64 0, .int .i64 0, .int .i64 0, .int .i64 0, .int .i64 0, .int .i64 0, .int .i64 0, .int .i64 0, .int .i64 0, .int .i64 0, .int .i64 0, .int .i64 0, .int .i64 0, .int .i64 0, .int .i64 0, .int .i64 0, .int .i64 0, .int .i64 0, .int .i64 0, .int .i64 0, .int .i64 0, .int .i64 0, .int .i64 0, .int .i64 0, .int .i64 0, .int .i64 0, .int .i64 0, .int .i64 0, .int .i64 0, .int .i64 0, .int .i64 0, .int .i64 0, .int .i64 0, .int .i64 0, .int .i64 0, .int .i64 0, .int .i64 0, .int .i64 0, .int .i64 0, .int .i64 0, .int .i64 0, .int .i64 0, .int .i64 0, .int .i64 0, .int .i64 0, .int .i64 0, .int .i64 0, .int .i64 0, .int .i64 0, .int .i64 0, .int .i64 0, .int .i64 0, .int .i64 0, .int .i64 0, .int .i64 0, .int .i64 0, .int .i64 0, .int .i64 0, .int .i64 0, .int .i64 0, .int .i64 0, .int .i64 0, .int .i64 0, .int .i64 0, .int .i64 0, .int .i64 0, .int .i64 0, .int .i64 0, .int .i64 0, .int .i64 0, .int .i64 0, .int .i64 0, .int .i64 0, .int .i64 0, .int .i64 0, .int .i64 0, .int .i64 0, .int .i64 0, .int .i64 0, .int .i64 0, .int .i64 0, .int .i64 0, .int .i64 0, .int .i64 0, .int .i64 0, .int .i64 0, .int .i64 0, .int .i64 0, .int .i64 0, .int .i64 0, .int .i64 0, .int .i64 0, .int .i64 0, .int .i64 0, .int .i64 0, .int .i64 0, .int .i64 0, .int .i64 0, .int .i64 0, .int .i64 0, .int .i64 0, .int .i64 0, .int .i64 0, .int .i64 0, .int .i64 0, .int .i64 0, .int .i64 0, .int .i64 0, .int .i64 0, .int .i64 0, .int .i64 0, .int .i64 0, .int .i64 0, .int .i64 0, .int .i64 0, .int .i64 0, .int .i64 0, .int .i64 0, .int .i64 0, .int .i64 0, .int .i64 0, .int .i64 0, .int .i64 0, .int .i64 0, .int .i64 0, .int .i64 0, .int .i64 0, .int .i64 0, .int .i64 0, .int .i64 0, .int .i64 0, .int .i64 0, .int .i64 0, .int .i64 0, .int .i64 0, .int .i64 0, .int .i64 0, .int .i64 0, .int .i64 0, .int .i64 0, .int .i64 0, .int .i64 0, .int .i64 0, .int .i64 0, .int .i64 0, .int .i64 0, .int .i64 0, .int .i64 0, .int .i64 0, .int .i64 0] := by kernel_rfl
@[go_sem] theorem sl75 : slOf Tryz.prog 75 = none := by kernel_rfl
@[go_sem] theorem ar75 : arrOf Tryz.prog 75 = some (200, 1) := by kernel_rfl
@[go_sem] theorem un77 : Tryz.prog.underlying 77 = some (.slice 81) := by kernel_rfl
@[go_sem] theorem sl77 : slOf Tryz.prog 77 = some (81, 10, 64) := by kernel_rfl
@[go_sem] theorem zr81 : zeroOf Tryz.prog 81 = some [.string ⟨#[]⟩, .string ⟨#[]⟩, .bool false, .bool false, .bool false, .bool false, .bool false, .int .i64 0, .int .i64 0, .int .u8 0] := by kernel_rfl
@[go_sem] theorem ty81 : tyOf Tryz.prog 81 = some (true, 10) := by kernel_rfl
@[go_sem] theorem fl81_9 : fldOf Tryz.prog 81 9 = some (9, false, 1) := by kernel_rfl
@[go_sem] theorem ty5 : tyOf Tryz.prog 5 = some (false, 1) := by kernel_rfl
@[go_sem] theorem un5 : Tryz.prog.underlying 5 = some (.int .u8) := by kernel_rfl
@[go_sem] theorem fl81_1 : fldOf Tryz.prog 81 1 = some (1, false, 1) := by kernel_rfl
@[go_sem] theorem fl81_7 : fldOf Tryz.prog 81 7 = some (7, false, 1) := by kernel_rfl
@[go_sem] theorem fl81_8 : fldOf Tryz.prog 81 8 = some (8, false, 1) := by kernel_rfl
@[go_sem] theorem fl25_2 : fldOf Tryz.prog 25 2 = some (2, false, 1) := by kernel_rfl
@[go_sem] theorem bl83 : bldOf Tryz.prog 83 = some ([(0, 1), (1, 1), (2, 1), (3, 1)], [.string ⟨#[]⟩, .bool false, .int .i64 0, .string ⟨#[]⟩]) := by kernel_rfl
@[go_sem] theorem sl57 : slOf Tryz.prog 57 = some (83, 4, 48) := by kernel_rfl
@[go_sem] theorem zr83 : zeroOf Tryz.prog 83 = some [.string ⟨#[]⟩, .bool false, .int .i64 0, .string ⟨#[]⟩] := by kernel_rfl
@[go_sem] theorem un57 : Tryz.prog.underlying 57 = some (.slice 83) := by kernel_rfl
@[go_sem] theorem un84 : Tryz.prog.underlying 84 = some (.slice 88) := by kernel_rfl
@[go_sem] theorem sl84 : slOf Tryz.prog 84 = some (88, 6, 72) := by kernel_rfl
@[go_sem] theorem zr88 : zeroOf Tryz.prog 88 = some [.int .u8 0, .string ⟨#[]⟩, .string ⟨#[]⟩, .string ⟨#[]⟩, .int .i64 0, .int .i64 0] := by kernel_rfl
@[go_sem] theorem fl88_0 : fldOf Tryz.prog 88 0 = some (0, false, 1) := by kernel_rfl
@[go_sem] theorem fl88_4 : fldOf Tryz.prog 88 4 = some (4, false, 1) := by kernel_rfl
@[go_sem] theorem fl88_5 : fldOf Tryz.prog 88 5 = some (5, false, 1) := by kernel_rfl
@[go_sem] theorem mp89 : mapOf Tryz.prog 89 = some (1, 4) := by kernel_rfl
@[go_sem] theorem zv4 : zeroV Tryz.prog 4 = some (.bool false) := by kernel_rfl
@[go_sem] theorem ct89 : cellTys Tryz.prog 89 = [none] := by kernel_rfl
@[go_sem] theorem ct92 : cellTys Tryz.prog 92 = [none] := by kernel_rfl
@[go_sem] theorem fl88_1 : fldOf Tryz.prog 88 1 = some (1, false, 1) := by kernel_rfl
@[go_sem] theorem ct77 : cellTys Tryz.prog 77 = [some 10] := by kernel_rfl
@[go_sem] theorem ct96 : cellTys Tryz.prog 96 = [none] := by kernel_rfl
@[go_sem] theorem bl99 : bldOf Tryz.prog 99 = some ([(0, 1), (1, 1)], [.slice none 0 0, .int .i64 0]) := by kernel_rfl
@[go_sem] theorem fl81_0 : fldOf Tryz.prog 81 0 = some (0, false, 1) := by kernel_rfl
@[go_sem] theorem ct97 : cellTys Tryz.prog 97 = [none] := by kernel_rfl
@[go_sem] theorem ct81 : cellTys Tryz.prog 81 = [none, none, none, none, none, none, none, none, none, none] := by kernel_rfl
@[go_sem] theorem fl99_1 : fldOf Tryz.prog 99 1 = some (1, false, 1) := by kernel_rfl
@[go_sem] theorem un105 : Tryz.prog.underlying 105 = some (.int .u64) := by kernel_rfl
@[go_sem] theorem un2 : Tryz.prog.underlying 2 = some (.int .i64) := by kernel_rfl
@[go_sem] theorem bs105_2 : bytesOf Tryz.prog 105 2 = none := by kernel_rfl
@[go_sem] theorem ct67 : cellTys Tryz.prog 67 = [none] := by kernel_rfl
@[go_sem] theorem fl70_1 : fldOf Tryz.prog 70 1 = some (1, false, 1) := by kernel_rfl
@[go_sem] theorem ty68 : tyOf Tryz.prog 68 = some (false, 1) := by kernel_rfl
@[go_sem] theorem un68 : Tryz.prog.underlying 68 = some (.slice 5) := by kernel_rfl
@[go_sem] theorem sl68 : slOf Tryz.prog 68 = some (5, 1, 1) := by kernel_rfl
@[go_sem] theorem zr5 : zeroOf Tryz.prog 5 = some [.int .u8 0] := by kernel_rfl
@[go_sem] theorem ct39 : cellTys Tryz.prog 39 = [none] := by kernel_rfl
@[go_sem] theorem bl118 : bldOf Tryz.prog 118 = some ([(0, 1), (1, 1)], [.string ⟨#[]⟩, .int .i64 0]) := by kernel_rfl
@[go_sem] theorem fl118_1 : fldOf Tryz.prog 118 1 = some (1, false, 1) := by kernel_rfl
@[go_sem] theorem ct5 : cellTys Tryz.prog 5 = [none] := by kernel_rfl
@[go_sem] theorem bl81 : bldOf Tryz.prog 81 = some ([(0, 1), (1, 1), (2, 1), (3, 1), (4, 1), (5, 1), (6, 1), (7, 1), (8, 1), (9, 1)], [.string ⟨#[]⟩, .string ⟨#[]⟩, .bool false, .bool false, .bool false, .bool false, .bool false, .int .i64 0, .int .i64 0, .int .u8 0]) := by kernel_rfl
@[go_sem] theorem ct116 : cellTys Tryz.prog 116 = [none] := by kernel_rfl
@[go_sem] theorem ty88 : tyOf Tryz.prog 88 = some (true, 6) := by kernel_rfl
@[go_sem] theorem ct88 : cellTys Tryz.prog 88 = [none, none, none, none, none, none] := by kernel_rfl
@[go_sem] theorem ct123 : cellTys Tryz.prog 123 = [none] := by kernel_rfl
@[go_sem] theorem bs68_9 : bytesOf Tryz.prog 68 9 = none := by kernel_rfl
@[go_sem] theorem ct84 : cellTys Tryz.prog 84 = [some 6] := by kernel_rfl
@[go_sem] theorem bl88 : bldOf Tryz.prog 88 = some ([(0, 1), (1, 1), (2, 1), (3, 1), (4, 1), (5, 1)], [.int .u8 0, .string ⟨#[]⟩, .string ⟨#[]⟩, .string ⟨#[]⟩, .int .i64 0, .int .i64 0]) := by kernel_rfl
@[go_sem] theorem ct131 : cellTys Tryz.prog 131 = [none] := by kernel_rfl
@[go_sem] theorem ct25 : cellTys Tryz.prog 25 = [none, none, none, none] := by kernel_rfl
@[go_sem] theorem ct135 : cellTys Tryz.prog 135 = [none] := by kernel_rfl
@[go_sem] theorem bs3_5 : bytesOf Tryz.prog 3 5 = none := by kernel_rfl
@[go_sem] theorem zr142 : zeroOf Tryz.prog 142 = some [.int .u8 0, .int .u8 0, .int .u8 0, .int .u8 0, .int .u8 0, .int .u8 0, .int .u8 0, .int .u8 0, .int .u8 0, .int .u8 0, .int .u8 0, .int .u8 0, .int .u8 0, .int .u8 0, .int .u8 0, .int .u8 0, .int .u8 0, .int .u8 0, .int .u8 0, .int .u8 0, .int .u8 0, .int .u8 0, .int .u8 0, .int .u8 0] := by kernel_rfl
@[go_sem] theorem bs2_105 : bytesOf Tryz.prog 2 105 = none := by kernel_rfl
@[go_sem] theorem ct105 : cellTys Tryz.prog 105 = [none] := by kernel_rfl
@[go_sem] theorem sl142 : slOf Tryz.prog 142 = none := by kernel_rfl
@[go_sem] theorem ar142 : arrOf Tryz.prog 142 = some (24, 1) := by kernel_rfl
@[go_sem] theorem ct68 : cellTys Tryz.prog 68 = [some 1] := by kernel_rfl
@[go_sem] theorem bs3_105 : bytesOf Tryz.prog 3 105 = none := by kernel_rfl
@[go_sem] theorem bs9_68 : bytesOf Tryz.prog 9 68 = some 5 := by kernel_rfl
@[go_sem] theorem bs5_105 : bytesOf Tryz.prog 5 105 = none := by kernel_rfl
@[go_sem] theorem ct108 : cellTys Tryz.prog 108 = [none] := by kernel_rfl
@[go_sem] theorem ty44 : tyOf Tryz.prog 44 = some (false, 1) := by kernel_rfl
@[go_sem] theorem bl149 : bldOf Tryz.prog 149 = some ([(0, 1), (1, 1), (2, 1)], [.string ⟨#[]⟩, .string ⟨#[]⟩, .nilIface]) := by kernel_rfl
@[go_sem] theorem fl70_0 : fldOf Tryz.prog 70 0 = some (0, false, 1) := by kernel_rfl
@[go_sem] theorem ty67 : tyOf Tryz.prog 67 = some (false, 1) := by kernel_rfl
@[go_sem] theorem bs67_151 : bytesOf Tryz.prog 67 151 = none := by kernel_rfl
@[go_sem] theorem ct151 : cellTys Tryz.prog 151 = [none] := by kernel_rfl
@[go_sem] theorem bs151_67 : bytesOf Tryz.prog 151 67 = none := by kernel_rfl
@[go_sem] theorem un153 : Tryz.prog.underlying 153 = some (.int .u32) := by kernel_rfl
@[go_sem] theorem bs39_153 : bytesOf Tryz.prog 39 153 = none := by kernel_rfl
@[go_sem] theorem ct153 : cellTys Tryz.prog 153 = [none] := by kernel_rfl
@[go_sem] theorem bs153_39 : bytesOf Tryz.prog 153 39 = none := by kernel_rfl
@[go_sem] theorem fl88_2 : fldOf Tryz.prog 88 2 = some (2, false, 1) := by kernel_rfl
@[go_sem] theorem fl88_3 : fldOf Tryz.prog 88 3 = some (3, false, 1) := by kernel_rfl
@[go_sem] theorem ty83 : tyOf Tryz.prog 83 = some (true, 4) := by kernel_rfl
@[go_sem] theorem ct83 : cellTys Tryz.prog 83 = [none, none, none, none] := by kernel_rfl
@[go_sem] theorem ty89 : tyOf Tryz.prog 89 = some (false, 1) := by kernel_rfl
@[go_sem] theorem sl174 : slOf Tryz.prog 174 = some (123, 1, 8) := by kernel_rfl
@[go_sem] theorem zr123 : zeroOf Tryz.prog 123 = some [.pointer none] := by kernel_rfl
@[go_sem] theorem un174 : Tryz.prog.underlying 174 = some (.slice 123) := by kernel_rfl
@[go_sem] theorem ty123 : tyOf Tryz.prog 123 = some (false, 1) := by kernel_rfl
@[go_sem] theorem fl81_2 : fldOf Tryz.prog 81 2 = some (2, false, 1) := by kernel_rfl
@[go_sem] theorem fl99_0 : fldOf Tryz.prog 99 0 = some (0, false, 1) := by kernel_rfl
@[go_sem] theorem ty26 : tyOf Tryz.prog 26 = some (false, 1) := by kernel_rfl
@[go_sem] theorem ct177 : cellTys Tryz.prog 177 = [none] := by kernel_rfl
@[go_sem] theorem bl192 : bldOf Tryz.prog 192 = some ([(0, 3), (3, 1), (4, 1)], [.int .u32 0, .int .i32 0, .int .u32 0, .nilIface, .slice none 0 0]) := by kernel_rfl
@[go_sem] theorem fl192_0 : fldOf Tryz.prog 192 0 = some (0, true, 3) := by kernel_rfl
@[go_sem] theorem ct188 : cellTys Tryz.prog 188 = [none, none, none] := by kernel_rfl
@[go_sem] theorem ct1 : cellTys Tryz.prog 1 = [none] := by kernel_rfl
@[go_sem] theorem fl192_1 : fldOf Tryz.prog 192 1 = some (3, false, 1) := by kernel_rfl
@[go_sem] theorem ty190 : tyOf Tryz.prog 190 = some (false, 1) := by kernel_rfl
@[go_sem] theorem mp195 : mapOf Tryz.prog 195 = some (0, 3) := by kernel_rfl
@[go_sem] theorem zv3 : zeroV Tryz.prog 3 = some (.int .i64 0) := by kernel_rfl
@[go_sem] theorem fl81_4 : fldOf Tryz.prog 81 4 = some (4, false, 1) := by kernel_rfl
@[go_sem] theorem fl81_5 : fldOf Tryz.prog 81 5 = some (5, false, 1) := by kernel_rfl
@[go_sem] theorem fl81_6 : fldOf Tryz.prog 81 6 = some (6, false, 1) := by kernel_rfl
@[go_sem] theorem mp196 : mapOf Tryz.prog 196 = some (0, 9) := by kernel_rfl
@[go_sem] theorem zv9 : zeroV Tryz.prog 9 = some (.string ⟨#[]⟩) := by kernel_rfl
@[go_sem] theorem fl81_3 : fldOf Tryz.prog 81 3 = some (3, false, 1) := by kernel_rfl
@[go_sem] theorem ct21 : cellTys Tryz.prog 21 = [none] := by kernel_rfl
@[go_sem] theorem un21 : Tryz.prog.underlying 21 = some (.int .i32) := by kernel_rfl
@[go_sem] theorem bs5_21 : bytesOf Tryz.prog 5 21 = none := by kernel_rfl
@[go_sem] theorem sl200 : slOf Tryz.prog 200 = none := by kernel_rfl
@[go_sem] theorem ar200 : arrOf Tryz.prog 200 = some (20, 1) := by kernel_rfl
@[go_sem] theorem ty105 : tyOf Tryz.prog 105 = some (false, 1) := by kernel_rfl
@[go_sem] theorem bs105_153 : bytesOf Tryz.prog 105 153 = none := by kernel_rfl
@[go_sem] theorem bs153_5 : bytesOf Tryz.prog 153 5 = none := by kernel_rfl
@[go_sem] theorem sl201 : slOf Tryz.prog 201 = none := by kernel_rfl
@[go_sem] theorem ar201 : arrOf Tryz.prog 201 = some (65, 1) := by kernel_rfl
@[go_sem] theorem bl204 : bldOf Tryz.prog 204 = some ([(0, 1)], [.string ⟨#[]⟩]) := by kernel_rfl
@[go_sem] theorem bs153_105 : bytesOf Tryz.prog 153 105 = none := by kernel_rfl
@[go_sem] theorem fl118_0 : fldOf Tryz.prog 118 0 = some (0, false, 1) := by kernel_rfl
@[go_sem] theorem bs5_3 : bytesOf Tryz.prog 5 3 = none := by kernel_rfl
@[go_sem] theorem fl83_1 : fldOf Tryz.prog 83 1 = some (1, false, 1) := by kernel_rfl
@[go_sem] theorem fl83_2 : fldOf Tryz.prog 83 2 = some (2, false, 1) := by kernel_rfl
@[go_sem] theorem fl83_0 : fldOf Tryz.prog 83 0 = some (0, false, 1) := by kernel_rfl
@[go_sem] theorem un210 : Tryz.prog.underlying 210 = some (.int .i64) := by kernel_rfl
@[go_sem] theorem fl188_1 : fldOf Tryz.prog 188 1 = some (0, true, 1) := by kernel_rfl
@[go_sem] theorem ct182 : cellTys Tryz.prog 182 = [none] := by kernel_rfl
@[go_sem] theorem ct217 : cellTys Tryz.prog 217 = [none] := by kernel_rfl
@[go_sem] theorem fl192_2 : fldOf Tryz.prog 192 2 = some (4, false, 1) := by kernel_rfl
@[go_sem] theorem zr221 : zeroOf Tryz.prog 221 = some [.bool false, .bool false, .bool false, .bool false, .bool false, .bool false, .bool false, .bool false, .bool false, .bool false, .bool false, .bool false, .bool false, .bool false, .bool false, .bool false, .bool false, .bool false, .bool false, .bool false, .bool false, .bool false, .bool false, .bool false, .bool false, .bool false, .bool false, .bool false, .bool false, .bool false, .bool false, .bool false, .bool false, .bool false, .bool false, .bool false, .bool false, .bool false, .bool false, .bool false, .bool false, .bool false, .bool false, .bool false, .bool false, .bool false, .bool false, .bool false, .bool false, .bool false, .bool false, .bool false, .bool false, .bool false, .bool false, .bool false, .bool false, .bool false, .bool false, .bool false, .bool false, .bool false, .bool false, .bool false, .bool false, .bool false, .bool false, .bool false, .bool false, .bool false, .bool false, .bool false, .bool false, .bool false, .bool false, .bool false, .bool false, .bool false, .bool false, .bool false, .bool false, .bool false, .bool false, .bool false, .bool false, .bool false, .bool false, .bool false, .bool false, .bool false, .bool false, .bool false, .bool false, .bool false, .bool false, .bool false, .bool false, .bool false, .bool false, .bool false, .bool false, .bool false, .bool false, .bool false, .bool false, .bool false, .bool false, .bool false, .bool false, .bool false, .bool false, .bool false, .bool false, .bool false, .bool false, .bool false, .bool false, .bool false, .bool false, .bool false, .bool false, .bool false, .bool false, .bool false, .bool false, .bool false, .bool false, .bool false, .bool false, .bool false, .bool false, .bool false, .bool false, .bool false, .bool false, .bool false, .bool false, .bool false, .bool false, .bool false, .bool false, .bool false, .bool false, .bool false, .bool false, .bool false, .bool false, .bool false, .bool false, .bool false, .bool false, .bool false, .bool false, .bool false, .bool false, .bool false, .bool false, .bool false, .bool false, .bool false, .bool false, .bool false, .bool false, .bool false, .bool false, .bool false, .bool false, .bool false, .bool false, .bool false, .bool false, .bool false, .bool false, .bool false, .bool false, .bool false, .bool false, .bool false, .bool false, .bool false, .bool false, .bool false, .bool false, .bool false, .bool false, .bool false, .bool false, .bool false, .bool false, .bool false, .bool false, .bool false, .bool false, .bool false, .bool false, .bool false, .bool false, .bool false, .bool false, .bool false, .bool false, .bool false, .bool false, .bool false, .bool false, .bool false, .bool false, .bool false, .bool false, .bool false, .bool false, .bool false, .bool false, .bool false, .bool false, .bool false, .bool false, .bool false, .bool false, .bool false, .bool false, .bool false, .bool false, .bool false, .bool false, .bool false, .bool false, .bool false, .bool false, .bool false, .bool false, .bool false, .bool false, .bool false, .bool false, .bool false, .bool false, .bool false, .bool false, .bool false, .bool false, .bool false, .bool false, .bool false, .bool false, .bool false, .bool false, .bool false, .bool false, .bool false, .bool false, .bool false, .bool false, .bool false, .bool false, .bool false] := by kernel_rfl
@[go_sem] theorem ty221 : tyOf Tryz.prog 221 = some (true, 256) := by kernel_rfl
@[go_sem] theorem ct225 : cellTys Tryz.prog 225 = [none] := by kernel_rfl
@[go_sem] theorem ct228 : cellTys Tryz.prog 228 = [none] := by kernel_rfl
@[go_sem] theorem sl229 : slOf Tryz.prog 229 = none := by kernel_rfl
@[go_sem] theorem ar229 : arrOf Tryz.prog 229 = some (256, 1) := by kernel_rfl
@[go_sem] theorem sl232 : slOf Tryz.prog 232 = none := by kernel_rfl
@[go_sem] theorem ar232 : arrOf Tryz.prog 232 = some (16, 2) := by kernel_rfl
@[go_sem] theorem ty231 : tyOf Tryz.prog 231 = some (true, 2) := by kernel_rfl
@[go_sem] theorem zr231 : zeroOf Tryz.prog 231 = some [.int .u8 0, .int .u8 0] := by kernel_rfl
@[go_sem] theorem fl231_0 : fldOf Tryz.prog 231 0 = some (0, false, 1) := by kernel_rfl
@[go_sem] theorem fl231_1 : fldOf Tryz.prog 231 1 = some (1, false, 1) := by kernel_rfl
@[go_sem] theorem bs105_5 : bytesOf Tryz.prog 105 5 = none := by kernel_rfl
@[go_sem] theorem fl83_3 : fldOf Tryz.prog 83 3 = some (3, false, 1) := by kernel_rfl
@[go_sem] theorem un236 : Tryz.prog.underlying 236 = some (.int .u64) := by kernel_rfl
@[go_sem] theorem bs3_236 : bytesOf Tryz.prog 3 236 = none := by kernel_rfl
@[go_sem] theorem zr236 : zeroOf Tryz.prog 236 = some [.int .u64 0] := by kernel_rfl
@[go_sem] theorem ty236 : tyOf Tryz.prog 236 = some (false, 1) := by kernel_rfl
@[go_sem] theorem ct236 : cellTys Tryz.prog 236 = [none] := by kernel_rfl
@[go_sem] theorem ct210 : cellTys Tryz.prog 210 = [none] := by kernel_rfl
@[go_sem] theorem fl182_1 : fldOf Tryz.prog 182 1 = some (0, false, 1) := by kernel_rfl
@[go_sem] theorem ct243 : cellTys Tryz.prog 243 = [none] := by kernel_rfl
@[go_sem] theorem fl188_2 : fldOf Tryz.prog 188 2 = some (1, true, 2) := by kernel_rfl
@[go_sem] theorem ct186 : cellTys Tryz.prog 186 = [none, none] := by kernel_rfl
@[go_sem] theorem ct190 : cellTys Tryz.prog 190 = [none] := by kernel_rfl
@[go_sem] theorem zr249 : zeroOf Tryz.prog 249 = some [.int .u8 0, .int .u8 0, .int .u8 0, .int .u8 0, .int .u8 0, .int .u8 0, .int .u8 0, .int .u8 0, .int .u8 0, .int .u8 0, .int .u8 0, .int .u8 0, .int .u8 0, .int .u8 0, .int .u8 0, .int .u8 0, .int .u8 0, .int .u8 0, .int .u8 0, .int .u8 0, .int .u8 0, .int .u8 0, .int .u8 0, .int .u8 0, .int .u8 0, .int .u8 0, .int .u8 0, .int .u8 0, .int .u8 0, .int .u8 0, .int .u8 0, .int .u8 0, .int .u8 0, .int .u8 0, .int .u8 0, .int .u8 0, .int .u8 0, .int .u8 0, .int .u8 0, .int .u8 0, .int .u8 0, .int .u8 0, .int .u8 0, .int .u8 0, .int .u8 0, .int .u8 0, .int .u8 0, .int .u8 0, .int .u8 0, .int .u8 0, .int .u8 0, .int .u8 0, .int .u8 0, .int .u8 0, .int .u8 0, .int .u8 0, .int .u8 0, .int .u8 0, .int .u8 0, .int .u8 0, .int .u8 0, .int .u8 0, .int .u8 0, .int .u8 0, .int .u8 0, .int .u8 0, .int .u8 0, .int .u8 0, .int .u8 0, .int .u8 0, .int .u8 0, .int .u8 0, .int .u8 0, .int .u8 0, .int .u8 0, .int .u8 0, .int .u8 0, .int .u8 0, .int .u8 0, .int .u8 0, .int .u8 0, .int .u8 0, .int .u8 0, .int .u8 0, .int .u8 0, .int .u8 0, .int .u8 0, .int .u8 0, .int .u8 0, .int .u8 0, .int .u8 0, .int .u8 0, .int .u8 0, .int .u8 0, .int .u8 0, .int .u8 0, .int .u8 0, .int .u8 0, .int .u8 0, .int .u8 0, .int .u8 0, .int .u8 0, .int .u8 0, .int .u8 0, .int .u8 0, .int .u8 0, .int .u8 0, .int .u8 0, .int .u8 0, .int .u8 0, .int .u8 0, .int .u8 0, .int .u8 0, .int .u8 0, .int .u8 0, .int .u8 0, .int .u8 0, .int .u8 0, .int .u8 0, .int .u8 0, .int .u8 0, .int .u8 0, .int .u8 0, .int .u8 0, .int .u8 0, .int .u8 0, .int .u8 0, .int .u8 0, .int .u8 0, .int .u8 0, .int .u8 0, .int .u8 0, .int .u8 0, .int .u8 0, .int .u8 0, .int .u8 0, .int .u8 0, .int .u8 0, .int .u8 0, .int .u8 0, .int .u8 0, .int .u8 0, .int .u8 0, .int .u8 0, .int .u8 0, .int .u8 0, .int .u8 0, .int .u8 0, .int .u8 0, .int .u8 0, .int .u8 0, .int .u8 0, .int .u8 0, .int .u8 0, .int .u8 0, .int .u8 0, .int .u8 0, .int .u8 0, .int .u8 0, .int .u8 0, .int .u8 0, .int .u8 0, .int .u8 0, .int .u8 0, .int .u8 0, .int .u8 0, .int .u8 0, .int .u8 0, .int .u8 0, .int .u8 0, .int .u8 0, .int .u8 0, .int .u8 0, .int .u8 0, .int .u8 0, .int .u8 0, .int .u8 0, .int .u8 0, .int .u8 0, .int .u8 0, .int .u8 0, .int .u8 0, .int .u8 0, .int .u8 0, .int .u8 0, .int .u8 0, .int .u8 0, .int .u8 0, .int .u8 0, .int .u8 0, .int .u8 0, .int .u8 0, .int .u8 0, .int .u8 0, .int .u8 0, .int .u8 0, .int .u8 0, .int .u8 0, .int .u8 0, .int .u8 0, .int .u8 0, .int .u8 0, .int .u8 0, .int .u8 0, .int .u8 0, .int .u8 0, .int .u8 0, .int .u8 0, .int .u8 0, .int .u8 0, .int .u8 0, .int .u8 0, .int .u8 0, .int .u8 0, .int .u8 0, .int .u8 0, .int .u8 0, .int .u8 0, .int .u8 0, .int .u8 0, .int .u8 0, .int .u8 0, .int .u8 0, .int .u8 0, .int .u8 0, .int .u8 0, .int .u8 0, .int .u8 0, .int .u8 0, .int .u8 0, .int .u8 0, .int .u8 0, .int .u8 0, .int .u8 0, .int .u8 0, .int .u8 0, .int .u8 0, .int .u8 0, .int .u8 0, .int .u8 0, .int .u8 0, .int .u8 0, .int .u8 0, .int .u8 0, .int .u8 0, .int .u8 0, .int .u8 0, .int .u8 0, .int .u8 0, .int .u8 0, .int .u8 0, .int .u8 0, .int .u8 0, .int .u8 0, .int .u8 0, .int .u8 0] := by kernel_rfl
@[go_sem] theorem ty249 : tyOf Tryz.prog 249 = some (true, 256) := by kernel_rfl
@[go_sem] theorem sl249 : slOf Tryz.prog 249 = none := by kernel_rfl
@[go_sem] theorem ar249 : arrOf Tryz.prog 249 = some (256, 1) := by kernel_rfl
@[go_sem] theorem bl253 : bldOf Tryz.prog 253 = some ([(0, 256), (256, 1)], [.slice none 0 0, .slice none 0 0, .slice none 0 0, .slice none 0 0, .slice none 0 0, .slice none 0 0, .slice none 0 0, .slice none 0 0, .slice none 0 0, .slice none 0 0, .slice none 0 0, .slice none 0 0, .slice none 0 0, .slice none 0 0, .slice none 0 0, .slice none 0 0, .slice none 0 0, .slice none 0 0, .slice none 0 0, .slice none 0 0, .slice none 0 0, .slice none 0 0, .slice none 0 0, .slice none 0 0, .slice none 0 0, .slice none 0 0, .slice none 0 0, .slice none 0 0, .slice none 0 0, .slice none 0 0, .slice none 0 0, .slice none 0 0, .slice none 0 0, .slice none 0 0, .slice none 0 0, .slice none 0 0, .slice none 0 0, .slice none 0 0, .slice none 0 0, .slice none 0 0, .slice none 0 0, .slice none 0 0, .slice none 0 0, .slice none 0 0, .slice none 0 0, .slice none 0 0, .slice none 0 0, .slice none 0 0, .slice none 0 0, .slice none 0 0, .slice none 0 0, .slice none 0 0, .slice none 0 0, .slice none 0 0, .slice none 0 0, .slice none 0 0, .slice none 0 0, .slice none 0 0, .slice none 0 0, .slice none 0 0, .slice none 0 0, .slice none 0 0, .slice none 0 0, .slice none 0 0, .slice none 0 0, .slice none 0 0, .slice none 0 0, .slice none 0 0, .slice none 0 0, .slice none 0 0, .slice none 0 0, .slice none 0 0, .slice none 0 0, .slice none 0 0, .slice none 0 0, .slice none 0 0, .slice none 0 0, .slice none 0 0, .slice none 0 0, .slice none 0 0, .slice none 0 0, .slice none 0 0, .slice none 0 0, .slice none 0 0, .slice none 0 0, .slice none 0 0, .slice none 0 0, .slice none 0 0, .slice none 0 0, .slice none 0 0, .slice none 0 0, .slice none 0 0, .slice none 0 0, .slice none 0 0, .slice none 0 0, .slice none 0 0, .slice none 0 0, .slice none 0 0, .slice none 0 0, .slice none 0 0, .slice none 0 0, .slice none 0 0, .slice none 0 0, .slice none 0 0, .slice none 0 0, .slice none 0 0, .slice none 0 0, .slice none 0 0, .slice none 0 0, .slice none 0 0, .slice none 0 0, .slice none 0 0, .slice none 0 0, .slice none 0 0, .slice none 0 0, .slice none 0 0, .slice none 0 0, .slice none 0 0, .slice none 0 0, .slice none 0 0, .slice none 0 0, .slice none 0 0, .slice none 0 0, .slice none 0 0, .slice none 0 0, .slice none 0 0, .slice none 0 0, .slice none 0 0, .slice none 0 0, .slice none 0 0, .slice none 0 0, .slice none 0 0, .slice none 0 0, .slice none 0 0, .slice none 0 0, .slice none 0 0, .slice none 0 0, .slice none 0 0, .slice none 0 0, .slice none 0 0, .slice none 0 0, .slice none 0 0, .slice none 0 0, .slice none 0 0, .slice none 0 0, .slice none 0 0, .slice none 0 0, .slice none 0 0, .slice none 0 0, .slice none 0 0, .slice none 0 0, .slice none 0 0, .slice none 0 0, .slice none 0 0, .slice none 0 0, .slice none 0 0, .slice none 0 0, .slice none 0 0, .slice none 0 0, .slice none 0 0, .slice none 0 0, .slice none 0 0, .slice none 0 0, .slice none 0 0, .slice none 0 0, .slice none 0 0, .slice none 0 0, .slice none 0 0, .slice none 0 0, .slice none 0 0, .slice none 0 0, .slice none 0 0, .slice none 0 0, .slice none 0 0, .slice none 0 0, .slice none 0 0, .slice none 0 0, .slice none 0 0, .slice none 0 0, .slice none 0 0, .slice none 0 0, .slice none 0 0, .slice none 0 0, .slice none 0 0, .slice none 0 0, .slice none 0 0, .slice none 0 0, .slice none 0 0, .slice none 0 0, .slice none 0 0, .slice none 0 0, .slice none 0 0, .slice none 0 0, .slice none 0 0, .slice none 0 0, .slice none 0 0, .slice none 0 0, .slice none 0 0, .slice none 0 0, .slice none 0 0, .slice none 0 0, .slice none 0 0, .slice none 0 0, .slice none 0 0, .slice none 0 0, .slice none 0 0, .slice none 0 0, .slice none 0 0, .slice none 0 0, .slice none 0 0, .slice none 0 0, .slice none 0 0, .slice none 0 0, .slice none 0 0, .slice none 0 0, .slice none 0 0, .slice none 0 0, .slice none 0 0, .slice none 0 0, .slice none 0 0, .slice none 0 0, .slice none 0 0, .slice none 0 0, .slice none 0 0, .slice none 0 0, .slice none 0 0, .slice none 0 0, .slice none 0 0, .slice none 0 0, .slice none 0 0, .slice none 0 0, .slice none 0 0, .slice none 0 0, .slice none 0 0, .slice none 0 0, .slice none 0 0, .slice none 0 0, .slice none 0 0, .slice none 0 0, .slice none 0 0, .slice none 0 0, .slice none 0 0, .slice none 0 0, .slice none 0 0, .slice none 0 0, .slice none 0 0, .slice none 0 0, .slice none 0 0, .slice none 0 0, .slice none 0 0, .slice none 0 0, .slice none 0 0, .slice none 0 0, .slice none 0 0, .slice none 0 0, .slice none 0 0, .slice none 0 0]) := by kernel_rfl
@[go_sem] theorem zr253 : zeroOf Tryz.prog 253 = some [.slice none 0 0, .slice none 0 0, .slice none 0 0, .slice none 0 0, .slice none 0 0, .slice none 0 0, .slice none 0 0, .slice none 0 0, .slice none 0 0, .slice none 0 0, .slice none 0 0, .slice none 0 0, .slice none 0 0, .slice none 0 0, .slice none 0 0, .slice none 0 0, .slice none 0 0, .slice none 0 0, .slice none 0 0, .slice none 0 0, .slice none 0 0, .slice none 0 0, .slice none 0 0, .slice none 0 0, .slice none 0 0, .slice none 0 0, .slice none 0 0, .slice none 0 0, .slice none 0 0, .slice none 0 0, .slice none 0 0, .slice none 0 0, .slice none 0 0, .slice none 0 0, .slice none 0 0, .slice none 0 0, .slice none 0 0, .slice none 0 0, .slice none 0 0, .slice none 0 0, .slice none 0 0, .slice none 0 0, .slice none 0 0, .slice none 0 0, .slice none 0 0, .slice none 0 0, .slice none 0 0, .slice none 0 0, .slice none 0 0, .slice none 0 0, .slice none 0 0, .slice none 0 0, .slice none 0 0, .slice none 0 0, .slice none 0 0, .slice none 0 0, .slice none 0 0, .slice none 0 0, .slice none 0 0, .slice none 0 0, .slice none 0 0, .slice none 0 0, .slice none 0 0, .slice none 0 0, .slice none 0 0, .slice none 0 0, .slice none 0 0, .slice none 0 0, .slice none 0 0, .slice none 0 0, .slice none 0 0, .slice none 0 0, .slice none 0 0, .slice none 0 0, .slice none 0 0, .slice none 0 0, .slice none 0 0, .slice none 0 0, .slice none 0 0, .slice none 0 0, .slice none 0 0, .slice none 0 0, .slice none 0 0, .slice none 0 0, .slice none 0 0, .slice none 0 0, .slice none 0 0, .slice none 0 0, .slice none 0 0, .slice none 0 0, .slice none 0 0, .slice none 0 0, .slice none 0 0, .slice none 0 0, .slice none 0 0, .slice none 0 0, .slice none 0 0, .slice none 0 0, .slice none 0 0, .slice none 0 0, .slice none 0 0, .slice none 0 0, .slice none 0 0, .slice none 0 0, .slice none 0 0, .slice none 0 0, .slice none 0 0, .slice none 0 0, .slice none 0 0, .slice none 0 0, .slice none 0 0, .slice none 0 0, .slice none 0 0, .slice none 0 0, .slice none 0 0, .slice none 0 0, .slice none 0 0, .slice none 0 0, .slice none 0 0, .slice none 0 0, .slice none 0 0, .slice none 0 0, .slice none 0 0, .slice none 0 0, .slice none 0 0, .slice none 0 0, .slice none 0 0, .slice none 0 0, .slice none 0 0, .slice none 0 0, .slice none 0 0, .slice none 0 0, .slice none 0 0, .slice none 0 0, .slice none 0 0, .slice none 0 0, .slice none 0 0, .slice none 0 0, .slice none 0 0, .slice none 0 0, .slice none 0 0, .slice none 0 0, .slice none 0 0, .slice none 0 0, .slice none 0 0, .slice none 0 0, .slice none 0 0, .slice none 0 0, .slice none 0 0, .slice none 0 0, .slice none 0 0, .slice none 0 0, .slice none 0 0, .slice none 0 0, .slice none 0 0, .slice none 0 0, .slice none 0 0, .slice none 0 0, .slice none 0 0, .slice none 0 0, .slice none 0 0, .slice none 0 0, .slice none 0 0, .slice none 0 0, .slice none 0 0, .slice none 0 0, .slice none 0 0, .slice none 0 0, .slice none 0 0, .slice none 0 0, .slice none 0 0, .slice none 0 0, .slice none 0 0, .slice none 0 0, .slice none 0 0, .slice none 0 0, .slice none 0 0, .slice none 0 0, .slice none 0 0, .slice none 0 0, .slice none 0 0, .slice none 0 0, .slice none 0 0, .slice none 0 0, .slice none 0 0, .slice none 0 0, .slice none 0 0, .slice none 0 0, .slice none 0 0, .slice none 0 0, .slice none 0 0, .slice none 0 0, .slice none 0 0, .slice none 0 0, .slice none 0 0, .slice none 0 0, .slice none 0 0, .slice none 0 0, .slice none 0 0, .slice none 0 0, .slice none 0 0, .slice none 0 0, .slice none 0 0, .slice none 0 0, .slice none 0 0, .slice none 0 0, .slice none 0 0, .slice none 0 0, .slice none 0 0, .slice none 0 0, .slice none 0 0, .slice none 0 0, .slice none 0 0, .slice none 0 0, .slice none 0 0, .slice none 0 0, .slice none 0 0, .slice none 0 0, .slice none 0 0, .slice none 0 0, .slice none 0 0, .slice none 0 0, .slice none 0 0, .slice none 0 0, .slice none 0 0, .slice none 0 0, .slice none 0 0, .slice none 0 0, .slice none 0 0, .slice none 0 0, .slice none 0 0, .slice none 0 0, .slice none 0 0, .slice none 0 0, .slice none 0 0, .slice none 0 0, .slice none 0 0, .slice none 0 0, .slice none 0 0, .slice none 0 0, .slice none 0 0, .slice none 0 0, .slice none 0 0, .slice none 0 0, .slice none 0 0, .slice none 0 0, .slice none 0 0, .slice none 0 0, .slice none 0 0, .slice none 0 0, .slice none 0 0, .slice none 0 0, .slice none 0 0, .slice none 0 0, .slice none 0 0, .slice none 0 0, .slice none 0 0] := by kernel_rfl
@[go_sem] theorem ty253 : tyOf Tryz.prog 253 = some (true, 257) := by kernel_rfl
@[go_sem] theorem fl253_0 : fldOf Tryz.prog 253 0 = some (0, true, 256) := by kernel_rfl
@[go_sem] theorem sl251 : slOf Tryz.prog 251 = none := by kernel_rfl
@[go_sem] theorem ar251 : arrOf Tryz.prog 251 = some (256, 1) := by kernel_rfl
@[go_sem] theorem fl253_1 : fldOf Tryz.prog 253 1 = some (256, false, 1) := by kernel_rfl
@[go_sem] theorem ct221 : cellTys Tryz.prog 221 = [none, none, none, none, none, none, none, none, none, none, none, none, none, none, none, none, none, none, none, none, none, none, none, none, none, none, none, none, none, none, none, none, none, none, none, none, none, none, none, none, none, none, none, none, none, none, none, none, none, none, none, none, none, none, none, none, none, none, none, none, none, none, none, none, none, none, none, none, none, none, none, none, none, none, none, none, none, none, none, none, none, none, none, none, none, none, none, none, none, none, none, none, none, none, none, none, none, none, none, none, none, none, none, none, none, none, none, none, none, none, none, none, none, none, none, none, none, none, none, none, none, none, none, none, none, none, none, none, none, none, none, none, none, none, none, none, none, none, none, none, none, none, none, none, none, none, none, none, none, none, none, none, none, none, none, none, none, none, none, none, none, none, none, none, none, none, none, none, none, none, none, none, none, none, none, none, none, none, none, none, none, none, none, none, none, none, none, none, none, none, none, none, none, none, none, none, none, none, none, none, none, none, none, none, none, none, none, none, none, none, none, none, none, none, none, none, none, none, none, none, none, none, none, none, none, none, none, none, none, none, none, none, none, none, none, none, none, none, none, none, none, none, none, none, none, none, none, none, none, none, none, none, none, none, none, none] := by kernel_rfl
@[go_sem] theorem sl221 : slOf Tryz.prog 221 = none := by kernel_rfl
@[go_sem] theorem ar221 : arrOf Tryz.prog 221 = some (256, 1) := by kernel_rfl
@[go_sem] theorem bs21_5 : bytesOf Tryz.prog 21 5 = none := by kernel_rfl
@[go_sem] theorem bs5_153 : bytesOf Tryz.prog 5 153 = none := by kernel_rfl
@[go_sem] theorem sl261 : slOf Tryz.prog 261 = none := by kernel_rfl
@[go_sem] theorem ar261 : arrOf Tryz.prog 261 = some (32, 1) := by kernel_rfl
@[go_sem] theorem sl262 : slOf Tryz.prog 262 = none := by kernel_rfl
@[go_sem] theorem ar262 : arrOf Tryz.prog 262 = some (64, 1) := by kernel_rfl
@[go_sem] theorem fl186_1 : fldOf Tryz.prog 186 1 = some (0, true, 2) := by kernel_rfl
@[go_sem] theorem ct184 : cellTys Tryz.prog 184 = [none, none] := by kernel_rfl
@[go_sem] theorem ct245 : cellTys Tryz.prog 245 = [none] := by kernel_rfl
@[go_sem] theorem bl272 : bldOf Tryz.prog 272 = some ([(0, 1), (1, 1)], [.pointer none, .string ⟨#[]⟩]) := by kernel_rfl
@[go_sem] theorem ct247 : cellTys Tryz.prog 247 = [none] := by kernel_rfl
@[go_sem] theorem zr278 : zeroOf Tryz.prog 278 = some [.string ⟨#[]⟩, .int .i64 0, .string ⟨#[]⟩, .pointer none, .slice none 0 0, .int .i64 0, .int .u8 0, .int .u8 0, .int .u8 0, .int .u8 0, .int .u8 0, .int .u8 0, .int .u8 0, .int .u8 0, .int .u8 0, .int .u8 0, .int .u8 0, .int .u8 0, .int .u8 0, .int .u8 0, .int .u8 0, .int .u8 0, .int .u8 0, .int .u8 0, .int .u8 0, .int .u8 0, .int .u8 0, .int .u8 0, .int .u8 0, .int .u8 0, .int .u8 0, .int .u8 0, .int .u8 0, .int .u8 0, .int .u8 0, .int .u8 0, .int .u8 0, .int .u8 0, .int .u8 0, .int .u8 0, .int .u8 0, .int .u8 0, .int .u8 0, .int .u8 0, .int .u8 0, .int .u8 0, .int .u8 0, .int .u8 0, .int .u8 0, .int .u8 0, .int .u8 0, .int .u8 0, .int .u8 0, .int .u8 0, .int .u8 0, .int .u8 0, .int .u8 0, .int .u8 0, .int .u8 0, .int .u8 0, .int .u8 0, .int .u8 0, .int .u8 0, .int .u8 0, .int .u8 0, .int .u8 0, .int .u8 0, .int .u8 0, .int .u8 0, .int .u8 0, .int .u8 0, .int .u8 0, .int .u8 0, .int .u8 0, .int .u8 0, .int .u8 0, .int .u8 0, .int .u8 0, .int .u8 0, .int .u8 0, .int .u8 0, .int .u8 0, .int .u8 0, .int .u8 0, .int .u8 0, .int .u8 0, .int .u8 0, .int .u8 0, .int .u8 0, .int .u8 0, .int .u8 0, .int .u8 0, .int .u8 0, .int .u8 0, .int .u8 0, .int .u8 0, .int .u8 0, .int .u8 0, .int .u8 0, .int .u8 0, .int .u8 0, .int .u8 0, .int .u8 0, .int .u8 0, .int .u8 0, .int .u8 0, .int .u8 0, .int .u8 0, .int .u8 0, .int .u8 0, .int .u8 0, .int .u8 0, .int .u8 0, .int .u8 0, .int .u8 0, .int .u8 0, .int .u8 0, .int .u8 0, .int .u8 0, .int .u8 0, .int .u8 0, .int .u8 0, .int .u8 0, .int .u8 0, .int .u8 0, .int .u8 0, .int .u8 0, .int .u8 0, .int .u8 0, .int .u8 0, .int .u8 0, .int .u8 0, .int .u8 0, .int .u8 0, .int .u8 0, .int .u8 0, .int .u8 0, .int .u8 0, .int .u8 0, .int .u8 0, .int .u8 0, .int .u8 0, .int .u8 0, .int .u8 0, .int .u8 0, .int .u8 0, .int .u8 0, .int .u8 0, .int .u8 0, .int .u8 0, .int .u8 0, .int .u8 0, .int .u8 0, .int .u8 0, .int .u8 0, .int .u8 0, .int .u8 0, .int .u8 0, .int .u8 0, .int .u8 0, .int .u8 0, .int .u8 0, .int .u8 0, .int .u8 0, .int .u8 0, .int .u8 0, .int .u8 0, .int .u8 0, .int .u8 0, .int .u8 0, .int .u8 0, .int .u8 0, .int .u8 0, .int .u8 0, .int .u8 0, .int .u8 0, .int .u8 0, .int .u8 0, .int .u8 0, .int .u8 0, .int .u8 0, .int .u8 0, .int .u8 0, .int .u8 0, .int .u8 0, .int .u8 0, .int .u8 0, .int .u8 0, .int .u8 0, .int .u8 0, .int .u8 0, .int .u8 0, .int .u8 0, .int .u8 0, .int .u8 0, .int .u8 0, .int .u8 0, .int .u8 0, .int .u8 0, .int .u8 0, .int .u8 0, .int .u8 0, .int .u8 0, .int .u8 0, .int .u8 0, .int .u8 0, .int .u8 0, .int .u8 0, .int .u8 0, .int .u8 0, .int .u8 0, .int .u8 0, .int .u8 0, .int .u8 0, .int .u8 0, .int .u8 0, .int .u8 0, .int .u8 0, .int .u8 0, .int .u8 0, .int .u8 0, .int .u8 0, .int .u8 0, .int .u8 0, .int .u8 0, .int .u8 0, .int .u8 0, .int .u8 0, .int .u8 0, .int .u8 0, .int .u8 0, .int .u8 0, .int .u8 0, .int .u8 0, .int .u8 0, .int .u8 0, .int .u8 0, .int .u8 0, .int .u8 0, .int .u8 0, .int .u8 0, .int .u8 0, .int .u8 0, .int .u8 0, .int .u8 0, .int .u8 0, .int .u8 0, .int .u8 0, .int .u8 0, .int .u8 0, .int .u8 0, .int .u8 0, .int .u8 0, .int .u8 0, .int .u8 0, .int .u8 0, .int .u8 0, .int .u8 0, .int .u8 0, .int .u8 0, .int .u8 0, .int .u8 0] := by kernel_rfl
@[go_sem] theorem fl278_2 : fldOf Tryz.prog 278 2 = some (6, true, 256) := by kernel_rfl
@[go_sem] theorem ty229 : tyOf Tryz.prog 229 = some (true, 256) := by kernel_rfl
@[go_sem] theorem fl278_1 : fldOf Tryz.prog 278 1 = some (5, false, 1) := by kernel_rfl
@[go_sem] theorem sl274 : slOf Tryz.prog 274 = some (273, 1, 8) := by kernel_rfl
@[go_sem] theorem zr273 : zeroOf Tryz.prog 273 = some [.pointer none] := by kernel_rfl
@[go_sem] theorem fl278_0 : fldOf Tryz.prog 278 0 = some (0, true, 5) := by kernel_rfl
@[go_sem] theorem fl276_4 : fldOf Tryz.prog 276 4 = some (4, false, 1) := by kernel_rfl
@[go_sem] theorem ty274 : tyOf Tryz.prog 274 = some (false, 1) := by kernel_rfl
@[go_sem] theorem ct276 : cellTys Tryz.prog 276 = [none, none, none, none, some 1] := by kernel_rfl
@[go_sem] theorem ty284 : tyOf Tryz.prog 284 = some (false, 1) := by kernel_rfl
@[go_sem] theorem ct284 : cellTys Tryz.prog 284 = [some 5] := by kernel_rfl
@[go_sem] theorem bs105_3 : bytesOf Tryz.prog 105 3 = none := by kernel_rfl
@[go_sem] theorem fl184_0 : fldOf Tryz.prog 184 0 = some (0, false, 1) := by kernel_rfl
@[go_sem] theorem ct287 : cellTys Tryz.prog 287 = [none] := by kernel_rfl
@[go_sem] theorem bs285_151 : bytesOf Tryz.prog 285 151 = none := by kernel_rfl
@[go_sem] theorem ct285 : cellTys Tryz.prog 285 = [none] := by kernel_rfl
@[go_sem] theorem ty21 : tyOf Tryz.prog 21 = some (false, 1) := by kernel_rfl
@[go_sem] theorem ct269 : cellTys Tryz.prog 269 = [none] := by kernel_rfl
@[go_sem] theorem bl293 : bldOf Tryz.prog 293 = some ([(0, 1), (1, 256), (257, 1)], [.string ⟨#[]⟩, .int .i64 0, .int .i64 0, .int .i64 0, .int .i64 0, .int .i64 0, .int .i64 0, .int .i64 0, .int .i64 0, .int .i64 0, .int .i64 0, .int .i64 0, .int .i64 0, .int .i64 0, .int .i64 0, .int .i64 0, .int .i64 0, .int .i64 0, .int .i64 0, .int .i64 0, .int .i64 0, .int .i64 0, .int .i64 0, .int .i64 0, .int .i64 0, .int .i64 0, .int .i64 0, .int .i64 0, .int .i64 0, .int .i64 0, .int .i64 0, .int .i64 0, .int .i64 0, .int .i64 0, .int .i64 0, .int .i64 0, .int .i64 0, .int .i64 0, .int .i64 0, .int .i64 0, .int .i64 0, .int .i64 0, .int .i64 0, .int .i64 0, .int .i64 0, .int .i64 0, .int .i64 0, .int .i64 0, .int .i64 0, .int .i64 0, .int .i64 0, .int .i64 0, .int .i64 0, .int .i64 0, .int .i64 0, .int .i64 0, .int .i64 0, .int .i64 0, .int .i64 0, .int .i64 0, .int .i64 0, .int .i64 0, .int .i64 0, .int .i64 0, .int .i64 0, .int .i64 0, .int .i64 0, .int .i64 0, .int .i64 0, .int .i64 0, .int .i64 0, .int .i64 0, .int .i64 0, .int .i64 0, .int .i64 0, .int .i64 0, .int .i64 0, .int .i64 0, .int .i64 0, .int .i64 0, .int .i64 0, .int .i64 0, .int .i64 0, .int .i64 0, .int .i64 0, .int .i64 0, .int .i64 0, .int .i64 0, .int .i64 0, .int .i64 0, .int .i64 0, .int .i64 0, .int .i64 0, .int .i64 0, .int .i64 0, .int .i64 0, .int .i64 0, .int .i64 0, .int .i64 0, .int .i64 0, .int .i64 0, .int .i64 0, .int .i64 0, .int .i64 0, .int .i64 0, .int .i64 0, .int .i64 0, .int .i64 0, .int .i64 0, .int .i64 0, .int .i64 0, .int .i64 0, .int .i64 0, .int .i64 0, .int .i64 0, .int .i64 0, .int .i64 0, .int .i64 0, .int .i64 0, .int .i64 0, .int .i64 0, .int .i64 0, .int .i64 0, .int .i64 0, .int .i64 0, .int .i64 0, .int .i64 0, .int .i64 0, .int .i64 0, .int .i64 0, .int .i64 0, .int .i64 0, .int .i64 0, .int .i64 0, .int .i64 0, .int .i64 0, .int .i64 0, .int .i64 0, .int .i64 0, .int .i64 0, .int .i64 0, .int .i64 0, .int .i64 0, .int .i64 0, .int .i64 0, .int .i64 0, .int .i64 0, .int .i64 0, .int .i64 0, .int .i64 0, .int .i64 0, .int .i64 0, .int .i64 0, .int .i64 0, .int .i64 0, .int .i64 0, .int .i64 0, .int .i64 0, .int .i64 0, .int .i64 0, .int .i64 0, .int .i64 0, .int .i64 0, .int .i64 0, .int .i64 0, .int .i64 0, .int .i64 0, .int .i64 0, .int .i64 0, .int .i64 0, .int .i64 0, .int .i64 0, .int .i64 0, .int .i64 0, .int .i64 0, .int .i64 0, .int .i64 0, .int .i64 0, .int .i64 0, .int .i64 0, .int .i64 0, .int .i64 0, .int .i64 0, .int .i64 0, .int .i64 0, .int .i64 0, .int .i64 0, .int .i64 0, .int .i64 0, .int .i64 0, .int .i64 0, .int .i64 0, .int .i64 0, .int .i64 0, .int .i64 0, .int .i64 0, .int .i64 0, .int .i64 0, .int .i64 0, .int .i64 0, .int .i64 0, .int .i64 0, .int .i64 0, .int .i64 0, .int .i64 0, .int .i64 0, .int .i64 0, .int .i64 0, .int .i64 0, .int .i64 0, .int .i64 0, .int .i64 0, .int .i64 0, .int .i64 0, .int .i64 0, .int .i64 0, .int .i64 0, .int .i64 0, .int .i64 0, .int .i64 0, .int .i64 0, .int .i64 0, .int .i64 0, .int .i64 0, .int .i64 0, .int .i64 0, .int .i64 0, .int .i64 0, .int .i64 0, .int .i64 0, .int .i64 0, .int .i64 0, .int .i64 0, .int .i64 0, .int .i64 0, .int .i64 0, .int .i64 0, .int .i64 0, .int .i64 0, .int .i64 0, .int .i64 0, .int .i64 0, .int .i64 0, .int .i64 0, .int .i64 0, .int .i64 0, .int .i64 0, .int .i64 0, .int .i64 0, .int .i64 0, .int .i64 0, .int .i64 0, .int .i64 0, .int .i64 0, .int .i64 0, .int .i64 0, .int .i64 0, .slice none 0 0]) := by kernel_rfl
@[go_sem] theorem fl293_1 : fldOf Tryz.prog 293 1 = some (1, true, 256) := by kernel_rfl
@[go_sem] theorem sl291 : slOf Tryz.prog 291 = none := by kernel_rfl
@[go_sem] theorem ar291 : arrOf Tryz.prog 291 = some (256, 1) := by kernel_rfl
@[go_sem] theorem fl293_2 : fldOf Tryz.prog 293 2 = some (257, false, 1) := by kernel_rfl
@[go_sem] theorem ty42 : tyOf Tryz.prog 42 = some (false, 1) := by kernel_rfl
@[go_sem] theorem fl276_1 : fldOf Tryz.prog 276 1 = some (1, false, 1) := by kernel_rfl
@[go_sem] theorem fl276_0 : fldOf Tryz.prog 276 0 = some (0, false, 1) := by kernel_rfl
@[go_sem] theorem fl276_2 : fldOf Tryz.prog 276 2 = some (2, false, 1) := by kernel_rfl
@[go_sem] theorem fl276_3 : fldOf Tryz.prog 276 3 = some (3, false, 1) := by kernel_rfl
@[go_sem] theorem ty273 : tyOf Tryz.prog 273 = some (false, 1) := by kernel_rfl
@[go_sem] theorem ct273 : cellTys Tryz.prog 273 = [none] := by kernel_rfl
@[go_sem] theorem bl276 : bldOf Tryz.prog 276 = some ([(0, 1), (1, 1), (2, 1), (3, 1), (4, 1)], [.string ⟨#[]⟩, .int .i64 0, .string ⟨#[]⟩, .pointer none, .slice none 0 0]) := by kernel_rfl
@[go_sem] theorem zr276 : zeroOf Tryz.prog 276 = some [.string ⟨#[]⟩, .int .i64 0, .string ⟨#[]⟩, .pointer none, .slice none 0 0] := by kernel_rfl
@[go_sem] theorem un274 : Tryz.prog.underlying 274 = some (.slice 273) := by kernel_rfl
@[go_sem] theorem bs21_9 : bytesOf Tryz.prog 21 9 = none := by kernel_rfl
@[go_sem] theorem bs21_153 : bytesOf Tryz.prog 21 153 = none := by kernel_rfl
@[go_sem] theorem ct295 : cellTys Tryz.prog 295 = [none] := by kernel_rfl
@[go_sem] theorem fl184_1 : fldOf Tryz.prog 184 1 = some (1, false, 1) := by kernel_rfl
@[go_sem] theorem un284 : Tryz.prog.underlying 284 = some (.slice 304) := by kernel_rfl
@[go_sem] theorem sl284 : slOf Tryz.prog 284 = some (304, 5, 20) := by kernel_rfl
@[go_sem] theorem zr304 : zeroOf Tryz.prog 304 = some [.int .u32 0, .int .u32 0, .int .i32 0, .int .i32 0, .int .i32 0] := by kernel_rfl
@[go_sem] theorem fl304_0 : fldOf Tryz.prog 304 0 = some (0, false, 1) := by kernel_rfl
@[go_sem] theorem ty153 : tyOf Tryz.prog 153 = some (false, 1) := by kernel_rfl
@[go_sem] theorem bs153_21 : bytesOf Tryz.prog 153 21 = none := by kernel_rfl
@[go_sem] theorem fl304_1 : fldOf Tryz.prog 304 1 = some (1, false, 1) := by kernel_rfl
@[go_sem] theorem fl304_2 : fldOf Tryz.prog 304 2 = some (2, true, 3) := by kernel_rfl
@[go_sem] theorem sl302 : slOf Tryz.prog 302 = none := by kernel_rfl
@[go_sem] theorem ar302 : arrOf Tryz.prog 302 = some (3, 1) := by kernel_rfl
@[go_sem] theorem bs3_21 : bytesOf Tryz.prog 3 21 = none := by kernel_rfl
@[go_sem] theorem fl272_0 : fldOf Tryz.prog 272 0 = some (0, false, 1) := by kernel_rfl
@[go_sem] theorem ty269 : tyOf Tryz.prog 269 = some (false, 1) := by kernel_rfl
@[go_sem] theorem fl272_1 : fldOf Tryz.prog 272 1 = some (1, false, 1) := by kernel_rfl
@[go_sem] theorem fl293_0 : fldOf Tryz.prog 293 0 = some (0, false, 1) := by kernel_rfl
@[go_sem] theorem ct321 : cellTys Tryz.prog 321 = [none] := by kernel_rfl
@[go_sem] theorem sl318 : slOf Tryz.prog 318 = some (5, 1, 1) := by kernel_rfl
@[go_sem] theorem zr318 : zeroOf Tryz.prog 318 = some [.slice none 0 0] := by kernel_rfl
@[go_sem] theorem ty318 : tyOf Tryz.prog 318 = some (false, 1) := by kernel_rfl
@[go_sem] theorem un318 : Tryz.prog.underlying 318 = some (.slice 5) := by kernel_rfl
@[go_sem] theorem bs318_9 : bytesOf Tryz.prog 318 9 = none := by kernel_rfl
@[go_sem] theorem ct323 : cellTys Tryz.prog 323 = [none] := by kernel_rfl
@[go_sem] theorem bl329 : bldOf Tryz.prog 329 = some ([(0, 1)], [.nilIface]) := by kernel_rfl
@[go_sem] theorem fl329_0 : fldOf Tryz.prog 329 0 = some (0, false, 1) := by kernel_rfl
@[go_sem] theorem ty321 : tyOf Tryz.prog 321 = some (false, 1) := by kernel_rfl
end Go.Proofs.YtelhdhofnohkcaaGreatDoor
namespace Go.Fm
/-! chapter 4, plain: what the program's reader of formats reads -/
structure Fld where
 tx : List UInt8
 nm : List UInt8
 lf : Bool
 ze : Bool
 pl : Bool
 bl : Bool
 ha : Bool
 wd : Int
 pr : Int
 lt : UInt8
deriving DecidableEq
def fd0 : Fld := ⟨[], [], false, false, false, false, false, -1, -1, 0⟩
def fdT (t : List UInt8) : Fld := ⟨t, [], false, false, false, false, false, 0, 0, 0⟩
def pk (s : List UInt8) : UInt8 := s.headD 0
def isDig (c : UInt8) : Bool := decide (48 ≤ c) && decide (c ≤ 57)
def digR (n : Nat) (any : Bool) : List UInt8 → Nat × Bool × List UInt8
 | [] => (n, any, [])
 | c :: r => if isDig c then digR (min (n * 10 + (c.toNat - 48)) 1001) true r else (n, any, c :: r)
def digitsV (missing : Int) (s : List UInt8) : Int × Bool × List UInt8 :=
 if pk s = 42 then (-2, true, s.tail) else
 let q := digR 0 false s
 if q.2.1 then ((q.1 : Int), decide (q.1 ≤ 1000), q.2.2) else (missing, true, q.2.2)
def flagR (f : Fld) : List UInt8 → Fld × List UInt8
 | [] => (f, [])
 | c :: r =>
  if c = 45 then flagR { f with lf := true } r
  else if c = 48 then flagR { f with ze := true } r
  else if c = 43 then flagR { f with pl := true } r
  else if c = 32 then flagR { f with bl := true } r
  else if c = 35 then flagR { f with ha := true } r
  else (f, c :: r)
def isNm (c : UInt8) : Bool := (decide (97 ≤ c) && decide (c ≤ 122)) || c == 95
def nameV (s : List UInt8) : Option (List UInt8 × List UInt8) :=
 if pk s ≠ 60 then some ([], s) else
 let n := s.findIdx (· == 62)
 if n < s.length ∧ 2 ≤ n ∧ ((s.take n).drop 1).all isNm then some ((s.take n).drop 1, s.drop (n + 1)) else none
def lets : List UInt8 := [100, 120, 88, 111, 98, 115, 99, 112]
def precV (s : List UInt8) : Int × Bool × List UInt8 := if pk s = 46 then digitsV 0 s.tail else (-1, true, s)
def fieldV (s : List UInt8) : Option (Fld × List UInt8) :=
 match nameV s with
 | none => none
 | some (nm, s1) =>
  let q := flagR { fd0 with nm := nm } s1
  let w := digitsV (-1) q.2
  if w.2.1 = false then none else
  let p := precV w.2.2
  if p.2.1 = false then none else
  let c := pk p.2.2
  if c ≠ 0 ∧ c ∈ lets ∧ ((w.1 = -2 ∨ p.1 = -2) → nm = []) then some ({ q.1 with wd := w.1, pr := p.1, lt := c }, p.2.2.tail) else none
def readF : Nat → List UInt8 → List Fld → Bool → Bool → Option (List Fld)
 | 0, _, _, _, _ => none
 | k + 1, s, out, nd, pn =>
  if s = [] then (if nd && pn then none else some out) else
  let n := s.findIdx (· == 37)
  if s.length ≤ n then (if nd && pn then none else some (out ++ [fdT s]))
  else if 0 < n then readF k (s.drop n) (out ++ [fdT (s.take n)]) nd pn
  else if s.tail.head? = some 37 then readF k (s.drop 2) (out ++ [fdT [37]]) nd pn
  else match fieldV s.tail with
   | none => none
   | some (f, r) => readF k r (out ++ [f]) (nd || f.nm != []) (pn || f.nm == [])
def readV (s : List UInt8) : Option (List Fld) := if 2000 < s.length then none else readF (s.length + 1) s [] false false
theorem digR_len (n : Nat) (a : Bool) (s : List UInt8) : (digR n a s).2.2.length ≤ s.length := by
 induction s generalizing n a with
 | nil => simp [digR]
 | cons c r ih =>
  unfold digR
  split
  ·have := ih (min (n * 10 + (c.toNat - 48)) 1001) true
   simp; omega
  ·simp
theorem digitsV_len (m : Int) (s : List UInt8) : (digitsV m s).2.2.length ≤ s.length := by
 unfold digitsV
 have := digR_len 0 false s
 split
 ·simp
 ·simp only; split <;> simpa using this
theorem flagR_len (f : Fld) (s : List UInt8) : (flagR f s).2.length ≤ s.length := by
 induction s generalizing f with
 | nil => simp [flagR]
 | cons c r ih =>
  unfold flagR
  repeat' split
  all_goals first | (simp; done) | (refine Nat.le_trans (ih _) ?_; simp)
theorem precV_len (s : List UInt8) : (precV s).2.2.length ≤ s.length := by
 unfold precV
 split
 ·refine Nat.le_trans (digitsV_len _ _) ?_
  simp
 ·simp
theorem nameV_len {s a r : List UInt8} (h : nameV s = some (a, r)) : r.length ≤ s.length := by
 unfold nameV at h
 split at h
 ·cases h; simp
 ·simp only at h
  split at h
  ·cases h; simp
  ·cases h
theorem fieldV_len {s r : List UInt8} {f : Fld} (h : fieldV s = some (f, r)) : r.length < s.length := by
 unfold fieldV at h
 split at h
 ·cases h
 ·rename_i nm s1 hn
  have h1 := nameV_len hn
  simp only at h
  have h2 := flagR_len { fd0 with nm := nm } s1
  generalize flagR { fd0 with nm := nm } s1 = q at *
  have h3 := digitsV_len (-1) q.2
  generalize digitsV (-1) q.2 = w at *
  have h4 := precV_len w.2.2
  generalize precV w.2.2 = p at *
  split at h
  ·cases h
  ·split at h
   ·cases h
   ·split at h
    ·rename_i hc
     have : p.2.2 ≠ [] := by intro e; rw [e] at hc; exact hc.1 rfl
     have hp : 0 < p.2.2.length := by
      cases hq : p.2.2 with
      | nil => exact absurd hq this
      | cons a b => simp
     cases h
     simp
     omega
    ·cases h
/-! a text with each % doubled is read as pieces of the text -/
/-! what the document's reader of formats reads, and that it is the same -/
structure Rf where
 lt : UInt8
 nm : List UInt8
 by' : List UInt8
 fl : List UInt8
 wd : Int
 pr : Int
def isFl (c : UInt8) : Bool := c == 45 || c == 48 || c == 43 || c == 32 || c == 35
theorem flag_same (f : Fld) (s : List UInt8) : flagR f s = ({ f with
  lf := f.lf || (s.takeWhile isFl).contains 45, ze := f.ze || (s.takeWhile isFl).contains 48, pl := f.pl || (s.takeWhile isFl).contains 43,
  bl := f.bl || (s.takeWhile isFl).contains 32, ha := f.ha || (s.takeWhile isFl).contains 35 }, s.dropWhile isFl) := by
 induction s generalizing f with
 | nil => simp [flagR]
 | cons c r ih =>
  unfold flagR
  by_cases h1 : c = 45
  ·subst h1; rw [if_pos rfl, ih]; simp [isFl]
  rw [if_neg h1]
  by_cases h2 : c = 48
  ·subst h2; rw [if_pos rfl, ih]; simp [isFl]
  rw [if_neg h2]
  by_cases h3 : c = 43
  ·subst h3; rw [if_pos rfl, ih]; simp [isFl]
  rw [if_neg h3]
  by_cases h4 : c = 32
  ·subst h4; rw [if_pos rfl, ih]; simp [isFl]
  rw [if_neg h4]
  by_cases h5 : c = 35
  ·subst h5; rw [if_pos rfl, ih]; simp [isFl]
  rw [if_neg h5]
  have : isFl c = false := by simp [isFl, h1, h2, h3, h4, h5]
  simp [this]
/-! names and fields: both readers read the same -/
/-! whole formats: both readers read the same -/
/-! how many arguments are taken -/
/-! whole numbers at a base: digits written and read -/
def digB (b n : Nat) : List Nat := if h : n < b ∨ b < 2 then [n] else digB b (n / b) ++ [n % b]
termination_by n
decreasing_by
 have h1 : ¬ n < b := fun q => h (.inl q)
 have h2 : ¬ b < 2 := fun q => h (.inr q)
 exact Nat.div_lt_self (by omega) (by omega)
def chB (d : Nat) : UInt8 := if d < 10 then UInt8.ofNat (48 + d) else UInt8.ofNat (87 + d)
def txtB (b n : Nat) : List UInt8 := (digB b n).map chB
def showB (b : Nat) (n : Int) : List UInt8 := if n < 0 then 45 :: txtB b n.natAbs else txtB b n.natAbs
theorem digB_small {b n : Nat} (h : n < b) : digB b n = [n] := by rw [digB]; simp [h]
theorem digB_step {b n : Nat} (hb : 2 ≤ b) (h : b ≤ n) : digB b n = digB b (n / b) ++ [n % b] := by
 rw [digB, dif_neg (by omega)]
theorem digB_ind {b : Nat} (hb : 2 ≤ b) {p : Nat → Prop} (h0 : ∀ n, n < b → p n) (h1 : ∀ n, b ≤ n → p (n / b) → p n) : ∀ n, p n := by
 intro n
 induction n using Nat.strongRecOn with
 | _ n ih =>
  by_cases h : n < b
  ·exact h0 n h
  ·exact h1 n (by omega) (ih _ (Nat.div_lt_self (by omega) (by omega)))
theorem digB_lt {b : Nat} (hb : 2 ≤ b) (n : Nat) : ∀ d ∈ digB b n, d < b := by
 refine digB_ind hb (p := fun n => ∀ d ∈ digB b n, d < b) (fun n h => ?_) (fun n h ih => ?_) n
 ·rw [digB_small h]; simpa using h
 ·rw [digB_step hb h]
  intro d hd
  rcases List.mem_append.1 hd with hd | hd
  ·exact ih d hd
  ·rw [List.mem_singleton.1 hd]; exact Nat.mod_lt _ (by omega)
theorem digB_ne (b n : Nat) : digB b n ≠ [] := by
 rw [digB]; split <;> simp
theorem digB_len {b : Nat} (hb : 2 ≤ b) (k n : Nat) (h : n < b ^ (k + 1)) : (digB b n).length ≤ k + 1 := by
 induction k generalizing n with
 | zero => rw [digB_small (by simpa using h)]; simp
 | succ k ih =>
  by_cases hn : n < b
  ·rw [digB_small hn]; simp
  ·rw [digB_step hb (by omega)]
   have : n / b < b ^ (k + 1) := Nat.div_lt_of_lt_mul (by rw [Nat.pow_succ] at h; rw [Nat.mul_comm]; exact h)
   have := ih _ this
   simp; omega
/-! what a field is filled with: the program's way -/
structure Ag where
 nm : List UInt8
 is : Bool
 int : Int
 tx : List UInt8
def rep (c : UInt8) (n : Int) : List UInt8 := List.replicate n.toNat c
def shortV (f : Fld) (s : List UInt8) : List UInt8 := if 0 ≤ f.pr ∧ f.pr < s.length then s.take f.pr.toNat else s
def paddedV (f : Fld) (s : List UInt8) : List UInt8 :=
 if f.wd - s.length ≤ 0 then s else if f.lf then s ++ rep 32 (f.wd - s.length) else rep 32 (f.wd - s.length) ++ s
def baseV (c : UInt8) : Nat := if c = 100 then 10 else if c = 111 then 8 else if c = 98 then 2 else 16
def upC (c : UInt8) : UInt8 := if 97 ≤ c ∧ c ≤ 122 then c - 32 else c
def textV (a : Ag) : List UInt8 := if a.is then a.tx else showB 10 a.int
def digsV (f : Fld) (n : Int) : List UInt8 :=
 let d := txtB (baseV f.lt) n.natAbs
 let d := if f.lt = 88 then d.map upC else d
 let d := if f.pr = 0 ∧ n = 0 then [] else d
 if 0 < f.pr - d.length then rep 48 (f.pr - d.length) ++ d else d
def signV (f : Fld) (n : Int) : List UInt8 := if n < 0 then [45] else if f.pl then [43] else if f.bl then [32] else []
def preV (c : UInt8) (d : List UInt8) : List UInt8 :=
 if c = 120 then [48, 120] else if c = 88 then [48, 88] else if c = 98 then [48, 98] else if c = 111 ∧ d.head? ≠ some 48 then [48] else []
def numV (f : Fld) (n : Int) : List UInt8 :=
 let d := digsV f n
 let fr := signV f n ++ (if f.ha ∧ n ≠ 0 ∧ f.lt ≠ 100 then preV f.lt d else [])
 let m := f.wd - fr.length - d.length
 let d := if f.ze ∧ f.pr < 0 ∧ f.lf = false ∧ 0 < m then rep 48 m ++ d else d
 paddedV f (fr ++ d)
/-! columns: widths and lines -/
def putW (ws : List Nat) (i n : Nat) : List Nat := if i = ws.length then ws ++ [n] else ws.set i (max (ws.getD i 0) n)
def rowW : List Nat → Nat → List (List UInt8) → List Nat
 | ws, _, [] => ws
 | ws, i, s :: r => rowW (putW ws i s.length) (i + 1) r
def rowA : List Nat → Nat → List (List UInt8) → List Nat
 | a, _, [] => a
 | a, i, s :: r => rowA (a.set i (max (a.getD i 0) s.length)) (i + 1) r
def SameW (ws a : List Nat) : Prop := ∀ k, ws.getD k 0 = a.getD k 0
theorem put_same {ws a : List Nat} (h : SameW ws a) {i n : Nat} (hi : i ≤ ws.length) (ha : i < a.length) : SameW (putW ws i n) (a.set i (max (a.getD i 0) n)) ∧ i + 1 ≤ (putW ws i n).length := by
 unfold putW
 have hik := h i
 split
 ·rename_i e
  refine ⟨fun k => ?_, by simp; omega⟩
  have hk := h k
  have h0 : a.getD i 0 = 0 := by rw [← hik]; simp [List.getD, e]
  by_cases hki : k = i
  ·subst hki
   simp only [List.getD] at h0 ⊢
   rw [show (ws ++ [n])[k]? = some n by simp [e], List.getElem?_set_self ha, h0]
   simp
  ·simp [List.getD, List.getElem?_set, Ne.symm hki] at hk ⊢
   rw [← hk]
   by_cases hl : k < ws.length
   ·simp [List.getElem?_append_left, hl]
   ·rw [List.getElem?_eq_none (by simp; omega), List.getElem?_eq_none (by omega)]
 ·refine ⟨fun k => ?_, by simp; omega⟩
  have hk := h k
  by_cases hki : k = i
  ·subst hki
   simp [List.getD, show k < ws.length by omega, ha] at *
   rw [hik]
  ·simpa [List.getD, List.getElem?_set, Ne.symm hki] using hk
theorem row_same (r : List (List UInt8)) : ∀ {ws a : List Nat} {i : Nat}, SameW ws a → i ≤ ws.length → i + r.length ≤ a.length → SameW (rowW ws i r) (rowA a i r) ∧ i + r.length ≤ (rowW ws i r).length ∧ (rowA a i r).length = a.length := by
 induction r with
 | nil => intro ws a i h hi ha; exact ⟨h, hi, rfl⟩
 | cons s r ih =>
  intro ws a i h hi ha
  simp only [List.length_cons] at ha
  obtain ⟨p1, p2⟩ := put_same h (n := s.length) hi (by omega)
  obtain ⟨q1, q2, q3⟩ := ih p1 p2 (by simp; omega)
  exact ⟨q1, by simp only [List.length_cons]; unfold rowW; omega, by unfold rowA; rw [q3]; simp⟩
/-! filling: stars, the argument of a field, a field, a format (errors by their numbers: 0 none, 1 ErrArg, 4 ErrForm, 6 ErrName, 14 ErrEnd) -/
def starW (args : List Ag) (u : Nat) (f : Fld) : Nat × Nat × Fld :=
 if f.wd ≠ -2 then (0, u, f) else
 match args[u]? with
 | none => (14, u, f)
 | some a => if a.is ∨ 1000 < a.int ∨ a.int < -1000 then (1, u + 1, f) else (0, u + 1, if a.int < 0 then { f with wd := -a.int, lf := true } else { f with wd := a.int })
def starP (args : List Ag) (u : Nat) (f : Fld) : Nat × Nat × Fld :=
 if f.pr ≠ -2 then (0, u, f) else
 match args[u]? with
 | none => (14, u, f)
 | some a => if a.is ∨ 1000 < a.int then (1, u + 1, f) else (0, u + 1, if a.int < 0 then { f with pr := -1 } else { f with pr := a.int })
def starsV (args : List Ag) (u : Nat) (f : Fld) : Nat × Nat × Fld :=
 let w := starW args u f
 if w.1 ≠ 0 then w else starP args w.2.1 w.2.2
def ag0 : Ag := ⟨[], false, 0, []⟩
def ofA (args : List Ag) (u : Nat) (nm : List UInt8) : Ag × Nat × Nat :=
 if nm = [] then (match args[u]? with | none => (ag0, 14, u) | some a => (a, 0, u + 1))
 else (match args.find? (fun a => a.nm == nm) with | none => (ag0, 6, u) | some a => (a, 0, u))
def decN (s : List UInt8) : Nat := s.foldl (fun n c => 10 * n + (c.toNat - 48)) 0
def numA (a : Ag) : Option Int :=
 if a.is = false then some a.int else
 let s := if a.tx.head? = some 45 then a.tx.tail else a.tx
 if s = [] ∨ 18 < s.length ∨ (s.head? = some 48 ∧ 1 < s.length) ∨ s.all isDig = false then none else some (if a.tx.head? = some 45 then -(decN s : Int) else decN s)
def quoC (c : UInt8) : List UInt8 := if c = 92 ∨ c = 34 then [92, c] else if c = 10 then [92, 110] else [c]
def quoV (s : List UInt8) : List UInt8 := 34 :: s.flatMap quoC ++ [34]
def putV (f : Fld) (a : Ag) : Option (List UInt8) :=
 if f.lt = 115 then some (paddedV f (shortV f (textV a)))
 else if f.lt = 112 then some (paddedV f (shortV f (quoV (textV a))))
 else if f.lt = 99 then
  (if a.is then (if a.tx = [] then none else some (paddedV f (a.tx.take 1))) else if a.int < 0 ∨ 255 < a.int then none else some (paddedV f [UInt8.ofNat a.int.toNat]))
 else (numA a).map (numV f)
def fillV (args : List Ag) (u : Nat) (f : Fld) : List UInt8 × Nat × Nat :=
 if f.lt = 0 then (f.tx, 0, u) else
 let s := starsV args u f
 if s.1 ≠ 0 then ([], s.1, s.2.1) else
 let o := ofA args s.2.1 f.nm
 if o.2.1 ≠ 0 then ([], o.2.1, o.2.2) else
 match putV s.2.2 o.1 with
 | none => ([], 1, o.2.2)
 | some t => (t, 0, o.2.2)
def fillsV (args : List Ag) : List Fld → Nat → List UInt8 → List UInt8 × Nat × Nat
 | [], u, out => (out, u, 0)
 | f :: L, u, out =>
  let q := fillV args u f
  if q.2.1 ≠ 0 then ([], 0, q.2.1) else
  if 100000 < (out ++ q.1).length then ([], 0, 1) else fillsV args L q.2.2 (out ++ q.1)
def runV (form : List UInt8) (args : List Ag) : List UInt8 × Nat × Nat :=
 match readV form with
 | none => ([], 0, 4)
 | some L => fillsV args L 0 []
end Go.Fm
namespace Go.Fm
set_option maxRecDepth 20000
/-! the formats of FormatBack and of the examples, read and filled -/
def agI (n : Int) : Ag := ⟨[], false, n, []⟩
theorem txt_len {b : Nat} (hb : 2 ≤ b) {n : Nat} (h : n < 2 ^ 64) : (txtB b n).length ≤ 64 := by
 unfold txtB
 rw [List.length_map]
 refine digB_len hb 63 n (Nat.lt_of_lt_of_le h (Nat.pow_le_pow_left hb 64))
theorem sane1 : runV [37, 48, 53, 100] [agI (-42)] = ([45, 48, 48, 52, 50], 1, 0) := by decide +kernel
theorem sane2 : runV [37, 35, 120] [agI 255] = ([48, 120, 102, 102], 1, 0) := by decide +kernel
theorem sane3 : runV [37, 45, 52, 115, 124] [⟨[], true, 0, [97, 98]⟩] = ([97, 98, 32, 32, 124], 1, 0) := by decide +kernel
end Go.Fm
namespace Go.Fm
/-! a number at a base is read back -/
theorem txtB_ne (b n : Nat) : txtB b n ≠ [] := by
 unfold txtB
 simp [digB_ne]
theorem chB_sign : ∀ d, d < 16 → chB d ≠ 45 ∧ chB d ≠ 43 := by decide
theorem txtB_head {b : Nat} (hb : 2 ≤ b) (hb2 : b ≤ 16) (n : Nat) : (txtB b n).head? ≠ some 45 ∧ (txtB b n).head? ≠ some 43 := by
 have hl := digB_lt hb n
 unfold txtB
 generalize digB b n = l at *
 cases l with
 | nil => simp
 | cons d r =>
  have := chB_sign d (Nat.lt_of_lt_of_le (hl d (by simp)) hb2)
  simpa using this
end Go.Fm
set_option linter.unusedSectionVars false
namespace Go.Eng
variable {P : Program} [HasGlob P]
/-! regions whose order is drawn -/
section
variable {ops : Array Oper} {Q : Exit → Act → World → Prop} {W : World → Prop}
def clear (G : List Nat) (L : Array Bool) : Bool := G.all fun g => !(L.getD g false)
def wpAnyT (P : Program) (ops : Array Oper) (Q : Exit → Act → World → Prop) (T : Array Bool → World → Prop) : Nat → Array Bool → Act → World → Prop
 | 0, L, a, w => Region.ready .any ops L = [] ∧ Q .normal a w
 | fuel + 1, L, a, w =>
  (Region.ready .any ops L = [] → Q .normal a w) ∧
  ∀ i ∈ Region.ready .any ops L, wpOp P ops Q i (fun a' w' => T (L.setIfInBounds i true) w' ∧ wpAnyT P ops Q T fuel (L.setIfInBounds i true) a' w') a w
theorem wpAny_of_T {T : Array Bool → World → Prop} : ∀ (fuel : Nat) (L : Array Bool) (a : Act) (w : World), wpAnyT P ops Q T fuel L a w → wpAny P .any ops Q fuel L a w
 | 0, _, _, _, h => h
 | fuel + 1, _, _, _, h => ⟨h.1, fun i hi => wpOp_mono (fun a' w' h' => wpAny_of_T fuel _ a' w' h'.2) (h.2 i hi)⟩
theorem wpAnyT_mono {T T' : Array Bool → World → Prop} {i : Nat} (hT : ∀ L w, L.getD i false = true → T' L w → T L w) : ∀ (fuel : Nat) (L : Array Bool) (a : Act) (w : World), L.getD i false = true → wpAnyT P ops Q T' fuel L a w → wpAnyT P ops Q T fuel L a w
 | 0, _, _, _, _, h => h
 | fuel + 1, L, _, _, hi, h => ⟨h.1, fun j hj => wpOp_mono (fun a' w' h' => ⟨hT _ _ (getD_set_true hi) h'.1, wpAnyT_mono hT fuel _ a' w' (getD_set_true hi) h'.2⟩) (h.2 j hj)⟩
theorem wpAnyT_mono' {T T' : Array Bool → World → Prop} (hT : ∀ L w, T' L w → T L w) : ∀ (fuel : Nat) (L : Array Bool) (a : Act) (w : World), wpAnyT P ops Q T' fuel L a w → wpAnyT P ops Q T fuel L a w
 | 0, _, _, _, h => h
 | fuel + 1, L, _, _, h => ⟨h.1, fun j hj => wpOp_mono (fun a' w' h' => ⟨hT _ _ h'.1, wpAnyT_mono' hT fuel _ a' w' h'.2⟩) (h.2 j hj)⟩
def Valid (ops : Array Oper) (L : Array Bool) : Prop := ∀ k o, ops[k]? = some o → L.getD k false = true → ∀ e ∈ o.after, Region.binds .any e = true → L.getD e.on false = true
def reach (ops : Array Oper) (p : Nat) : Nat → Nat → Bool
 | 0, _ => false
 | f + 1, g => match ops[g]? with
  | some o => o.after.any fun e => Region.binds .any e && (e.on == p || reach ops p f e.on)
  | none => false
theorem reach_listed {L : Array Bool} (hv : Valid ops L) {p : Nat} : ∀ f g o, ops[g]? = some o → reach ops p f g = true → (∀ e ∈ o.after, Region.binds .any e = true → L.getD e.on false = true) → L.getD p false = true := by
 intro f
 induction f with
 | zero => intro g o _ h; simp [reach] at h
 | succ f ih =>
  intro g o ho h hall
  simp only [reach, ho] at h
  obtain ⟨e, he, hb⟩ := Array.any_eq_true'.1 h
  simp only [Bool.and_eq_true, Bool.or_eq_true, beq_iff_eq] at hb
  have hl := hall e he hb.1
  rcases hb.2 with hp | hr
  ·rw [← hp]; exact hl
  ·cases ho' : ops[e.on]? with
   | none =>
    cases f with
    | zero => simp [reach] at hr
    | succ f => simp [reach, ho'] at hr
   | some o' => exact ih e.on o' ho' hr (hv e.on o' ho' hl)
theorem Valid.set {L : Array Bool} (hv : Valid ops L) {i : Nat} (hi : i ∈ Region.ready .any ops L) : Valid ops (L.setIfInBounds i true) := by
 intro k o ho hk e he hb
 obtain ⟨_, oi, hoi, hall⟩ := mem_ready.1 hi
 by_cases hki : i = k
 ·subst hki
  rw [ho] at hoi
  simp only [Option.some.injEq] at hoi
  subst hoi
  exact getD_set_true (hall e he hb)
 ·rw [getD_set_ne false hki] at hk
  exact getD_set_true (hv k o ho hk e he hb)
theorem clear_set {G : List Nat} {L : Array Bool} {i : Nat} (hi : i ∉ G) : clear G (L.setIfInBounds i true) = clear G L := by
 unfold clear
 rw [Bool.eq_iff_iff, List.all_eq_true, List.all_eq_true]
 constructor
 ·intro h g hg
  have := h g hg
  rwa [getD_set_ne false (fun e => hi (by rw [e]; exact hg))] at this
 ·intro h g hg
  rw [getD_set_ne false (fun e => hi (by rw [e]; exact hg))]
  exact h g hg
theorem setC {L : Array Bool} {i j : Nat} (h : j ≠ i) : (L.setIfInBounds j true).setIfInBounds i true = (L.setIfInBounds i true).setIfInBounds j true := Array.setIfInBounds_comm _ _ h
theorem wpAnyT_first {i : Nat} {oi : Oper} {v : Value} {T : Array Bool → World → Prop} (hi : ops[i]? = some oi) (hT : ∀ L w, T (L.setIfInBounds i true) w → T L w) (hsel : ∀ (j : Nat) (o : Oper) cs b, ops[j]? = some o → o.op ≠ .select cs b)
  (hQ : ∀ c a w, Q (.panic c) (a.put oi.dst v) w → Q (.panic c) a w) {V : World → Prop} (hV : ∀ L w, Valid ops L → L.getD i false = false → T L w → V w) :
  ∀ (fuel : Nat) (L : Array Bool) (a : Act) (w : World),
   (∀ j oj, ops[j]? = some oj → j ≠ i → L.getD j true = false → (∀ e ∈ oj.after, Region.binds .any e = true → e.on ≠ i) → oi.apart ops oj = true) →
   Valid ops L → i ∈ Region.ready .any ops L → YieldsIf P ops V oi v a → V w →
   wpAnyT P ops Q T fuel (L.setIfInBounds i true) (a.put oi.dst v) w → T (L.setIfInBounds i true) w → wpAnyT P ops Q T (fuel + 1) L a w := by
 intro fuel
 induction fuel with
 | zero =>
  intro L a w _ _ hr hy hS H hW
  refine ⟨fun h => (by rw [h] at hr; cases hr), fun j hj => ?_⟩
  by_cases hji : j = i
  ·subst hji; exact hy.wpOp hi hS ⟨hW, H⟩
  ·have := ready_mono hj hji
   rw [H.1] at this
   cases this
 | succ fuel ih =>
  intro L a w hfree hv hr hy hS H hW
  refine ⟨fun h => (by rw [h] at hr; cases hr), fun j hj => ?_⟩
  by_cases hji : j = i
  ·subst hji; exact hy.wpOp hi hS ⟨hW, H⟩
  ·have h1 := H.2 j (ready_mono hj hji)
   obtain ⟨hjun, oj, hoj, hall⟩ := mem_ready.1 hj
   have hil : L.getD i false = false := by
    have h0 := (mem_ready.1 hr).1
    rcases Nat.lt_or_ge i L.size with h' | h'
    ·simp [h'] at h0 ⊢; exact h0
    ·simp [Array.getElem?_eq_none h']
   have hnot : ∀ e ∈ oj.after, Region.binds .any e = true → e.on ≠ i := fun e he hb heq => by
    have h1 := hall e he hb
    rw [heq, hil] at h1
    cases h1
   have h2 := wpOp_putIf hoj (hfree j oj hoj hji hjun hnot) (fun cs b => hsel i oi cs b hi) (fun cs b => hsel j oj cs b hoj) hQ hy h1
   have hfree' : ∀ k ok, ops[k]? = some ok → k ≠ i → (L.setIfInBounds j true).getD k true = false →
     (∀ e ∈ ok.after, Region.binds .any e = true → e.on ≠ i) → oi.apart ops ok = true := fun k ok hk hki hun hno => by
    refine hfree k ok hk hki ?_ hno
    by_cases hjk : j = k
    ·subst hjk; exact hjun
    ·rw [getD_set_ne true hjk] at hun; exact hun
   refine wpOp_mono (fun a' w' h3 => ?_) h2
   have hW' : T (L.setIfInBounds j true) w' := hT _ _ (by rw [setC hji]; exact h3.2.1)
   have hil' : (L.setIfInBounds j true).getD i false = false := by rw [getD_set_ne false hji]; exact hil
   exact ⟨hW', ih (L.setIfInBounds j true) a' w' hfree' (hv.set hj) (ready_mono hr (Ne.symm hji)) h3.1 (hV _ _ (hv.set hj) hil' hW') (by rw [setC hji]; exact h3.2.2)
    (by rw [setC hji]; exact h3.2.1)⟩
theorem wpAnyT_only {i : Nat} {T : Array Bool → World → Prop} {fuel : Nat} {L : Array Bool} {a : Act} {w : World} (hr : Region.ready .any ops L = [i])
  (h : wpOp P ops Q i (fun a' w' => T (L.setIfInBounds i true) w' ∧ wpAnyT P ops Q T fuel (L.setIfInBounds i true) a' w') a w) : wpAnyT P ops Q T (fuel + 1) L a w :=
 ⟨fun h0 => (by rw [hr] at h0; cases h0), fun j hj => (by rw [hr] at hj; simp at hj; subst hj; exact h)⟩
theorem wpAnyT_two {i j : Nat} {T : Array Bool → World → Prop} {fuel : Nat} {L : Array Bool} {a : Act} {w : World} (hr : Region.ready .any ops L = [i, j])
  (h : wpOp P ops Q i (fun a' w' => T (L.setIfInBounds i true) w' ∧ wpAnyT P ops Q T fuel (L.setIfInBounds i true) a' w') a w)
  (h' : wpOp P ops Q j (fun a' w' => T (L.setIfInBounds j true) w' ∧ wpAnyT P ops Q T fuel (L.setIfInBounds j true) a' w') a w) : wpAnyT P ops Q T (fuel + 1) L a w :=
 ⟨fun h0 => (by rw [hr] at h0; cases h0), fun k hk => (by
  rw [hr] at hk
  simp only [List.mem_cons, List.not_mem_nil, or_false] at hk
  rcases hk with rfl | rfl
  ·exact h
  ·exact h')⟩
theorem wpAnyT_three {i j k : Nat} {T : Array Bool → World → Prop} {fuel : Nat} {L : Array Bool} {a : Act} {w : World} (hr : Region.ready .any ops L = [i, j, k])
  (hi : wpOp P ops Q i (fun a' w' => T (L.setIfInBounds i true) w' ∧ wpAnyT P ops Q T fuel (L.setIfInBounds i true) a' w') a w)
  (hj : wpOp P ops Q j (fun a' w' => T (L.setIfInBounds j true) w' ∧ wpAnyT P ops Q T fuel (L.setIfInBounds j true) a' w') a w)
  (hk : wpOp P ops Q k (fun a' w' => T (L.setIfInBounds k true) w' ∧ wpAnyT P ops Q T fuel (L.setIfInBounds k true) a' w') a w) : wpAnyT P ops Q T (fuel + 1) L a w :=
 ⟨fun h0 => (by rw [hr] at h0; cases h0), fun q hk => (by
  rw [hr] at hk
  simp only [List.mem_cons, List.not_mem_nil, or_false] at hk
  rcases hk with rfl | rfl | rfl
  ·exact hi
  ·exact hj
  ·exact hk)⟩
theorem wpAnyT_four {i j k l : Nat} {T : Array Bool → World → Prop} {fuel : Nat} {L : Array Bool} {a : Act} {w : World} (hr : Region.ready .any ops L = [i, j, k, l])
  (hi : wpOp P ops Q i (fun a' w' => T (L.setIfInBounds i true) w' ∧ wpAnyT P ops Q T fuel (L.setIfInBounds i true) a' w') a w)
  (hj : wpOp P ops Q j (fun a' w' => T (L.setIfInBounds j true) w' ∧ wpAnyT P ops Q T fuel (L.setIfInBounds j true) a' w') a w)
  (hk : wpOp P ops Q k (fun a' w' => T (L.setIfInBounds k true) w' ∧ wpAnyT P ops Q T fuel (L.setIfInBounds k true) a' w') a w)
  (hl : wpOp P ops Q l (fun a' w' => T (L.setIfInBounds l true) w' ∧ wpAnyT P ops Q T fuel (L.setIfInBounds l true) a' w') a w) : wpAnyT P ops Q T (fuel + 1) L a w :=
 ⟨fun h0 => (by rw [hr] at h0; cases h0), fun q hk => (by
  rw [hr] at hk
  simp only [List.mem_cons, List.not_mem_nil, or_false] at hk
  rcases hk with rfl | rfl | rfl | rfl
  ·exact hi
  ·exact hj
  ·exact hk
  ·exact hl)⟩
theorem wpAnyT_done {T : Array Bool → World → Prop} {L : Array Bool} {a : Act} {w : World} (hr : Region.ready .any ops L = []) (h : Q .normal a w) : ∀ fuel, wpAnyT P ops Q T fuel L a w
 | 0 => ⟨hr, h⟩
 | _ + 1 => ⟨fun _ => h, by rw [hr]; simp⟩
end
end Go.Eng
set_option linter.unusedSectionVars false
namespace Go.Eng
variable {P : Program} [HasGlob P]
inductive Ord where
 | nil
 | q (i : Nat) (r : Ord)
 | kp (i : Nat) (r : Ord)
 | one (i : Nat) (r : Ord)
 | two (i : Nat) (r : Ord) (j : Nat) (r' : Ord)
 | three (i : Nat) (r : Ord) (j : Nat) (r1 : Ord) (k : Nat) (r2 : Ord)
 | four (i : Nat) (r : Ord) (j : Nat) (r1 : Ord) (k : Nat) (r2 : Ord) (l : Nat) (r3 : Ord)
 | kp2 (i : Nat) (r : Ord) (j : Nat) (r' : Ord)
 | kp3 (i : Nat) (r : Ord) (j : Nat) (r1 : Ord) (k : Nat) (r2 : Ord)
 | sk (i : Nat) (r : Ord)
 | nb (r : Ord)
 | kq (i : Nat) (r : Ord) (j : Nat) (r' : Ord)
def Ord.qs (l : List Nat) (r : Ord) : Ord := l.foldr .q r
def Ord.depth : Ord → Nat
 | .nil => 0
 | .q _ r | .kp _ r | .one _ r | .sk _ r => r.depth + 1
 | .nb r => r.depth
 | .kq _ r _ r' => max r.depth r'.depth + 1
 | .two _ r _ r' => max r.depth r'.depth + 1
 | .three _ r _ r1 _ r2 => max r.depth (max r1.depth r2.depth) + 1
 | .four _ r _ r1 _ r2 _ r3 => max r.depth (max r1.depth (max r2.depth r3.depth)) + 1
 | .kp2 _ r _ r' => max r.depth r'.depth + 1
 | .kp3 _ r _ r1 _ r2 => max r.depth (max r1.depth r2.depth) + 1
def Ord.gs : Ord → List Nat
 | .nil => []
 | .q _ r | .kp _ r | .sk _ r => r.gs
 | .nb r => r.gs
 | .kq _ _ j _ => [j]
 | .kp2 _ r _ _ => r.gs
 | .kp3 _ r _ _ _ _ => r.gs
 | .one i _ => [i]
 | .two i _ j _ => [i, j]
 | .three i _ j _ k _ => [i, j, k]
 | .four i _ j _ k _ l _ => [i, j, k, l]
def drOk (ops : Array Oper) : Ord → Array Bool → Bool → Bool
 | .nil, L, _ => (Region.ready .any ops L).isEmpty
 | .q i r, L, solo =>
  (Region.ready .any ops L).contains i && Region.free .any ops L i && !(r.gs.contains i) &&
   (match ops[i]? with
    | some o => !isLoad o.op || (!solo && r.gs.all fun g => reach ops i ops.size g)
    | none => false) && drOk ops r (L.setIfInBounds i true) solo
 | .nb r, L, _ => drOk ops r L false
 | .kq i r j r', L, _ => (Region.ready .any ops L == [i, j] || Region.ready .any ops L == [j, i]) && (r.gs == [j]) && (i != j) && drOk ops r (L.setIfInBounds i true) true && drOk ops r' (L.setIfInBounds j true) false
 | .sk i r, L, solo => (Region.ready .any ops L).contains i && Region.free .any ops L i && !(r.gs.contains i) && drOk ops r (L.setIfInBounds i true) solo
 | .kp i r, L, _ => (Region.ready .any ops L == [i]) && !(r.gs.contains i) && drOk ops r (L.setIfInBounds i true) true
 | .one i r, L, _ => (Region.ready .any ops L == [i]) && drOk ops r (L.setIfInBounds i true) false
 | .two i r j r', L, _ => (Region.ready .any ops L == [i, j]) && drOk ops r (L.setIfInBounds i true) false && drOk ops r' (L.setIfInBounds j true) false
 | .three i r j r1 k r2, L, _ => (Region.ready .any ops L == [i, j, k]) && drOk ops r (L.setIfInBounds i true) false && drOk ops r1 (L.setIfInBounds j true) false && drOk ops r2 (L.setIfInBounds k true) false
 | .four i r j r1 k r2 l r3, L, _ => (Region.ready .any ops L == [i, j, k, l]) && drOk ops r (L.setIfInBounds i true) false && drOk ops r1 (L.setIfInBounds j true) false && drOk ops r2 (L.setIfInBounds k true) false && drOk ops r3 (L.setIfInBounds l true) false
 | .kp2 i r j r', L, _ => (Region.ready .any ops L == [i, j]) && (r.gs == r'.gs) && drOk ops r (L.setIfInBounds i true) true && drOk ops r' (L.setIfInBounds j true) true
 | .kp3 i r j r1 k r2, L, _ => (Region.ready .any ops L == [i, j, k]) && (r.gs == r1.gs) && (r.gs == r2.gs) && drOk ops r (L.setIfInBounds i true) true && drOk ops r1 (L.setIfInBounds j true) true && drOk ops r2 (L.setIfInBounds k true) true
def AgC (P : Program) [HasGlob P] (c : Bool) (df : D) (ds : List D) (tys : List TypeId) (S : St) (k : D → Prop) : Prop := ∃ r0, (c = true → CallT P df ds tys S fun S' r => S' = S ∧ r = r0) ∧ k r0
def kpU (P : Program) [HasGlob P] (n : Nat) (N : List Nat) (S : St) (o : Oper) (K : List Nat → St → Prop) : Prop :=
 o.guard = none ∧
 match o.op with
 | .alloc _ | .box _ _ | .buildSlice _ _ _ | .makeSlice _ _ _ => stK P n S o (K (o.dst.toList ++ N))
 | .call { callee := .value fx, args, argTypes } => dstOk n o.dst ∧ evK true S fx fun df => evsK true S args.toList fun ds => CallT P df ds argTypes.toList S fun S' r => K N (S'.set o.dst r)
 | .call { callee := .builtin .append, args, .. } =>
  match args.toList with
  | [.tmp t, _] =>
   match look S.slots t with
   | some (.own s _) => s ∈ N ∧ stK P n S o (K N)
   | some (.v (.slice none 0 0)) => stK P n S o (K (o.dst.toList ++ N))
   | _ => False
  | _ => False
 | _ => False
def kpK (P : Program) [HasGlob P] (n : Nat) (ops : List Oper) (N : List Nat) (S : St) (o : Oper) (K : List Nat → St → Prop) : Prop :=
 match o.guard with
 | none => kpU P n N S o K
 | some _ => match o.op with
  | .call { callee := .value fx, args, argTypes } => match gcond ops S o with
   | some c => dstOk n o.dst ∧ evK c S fx fun df => evsK c S args.toList fun ds => AgC P c df ds argTypes.toList S fun r => K N (S.set o.dst (.when c r))
   | none => False
  | _ => False
def opK (P : Program) [HasGlob P] (n : Nat) (ops : List Oper) (o : Oper) (S : St) (K : St → Prop) : Prop :=
 match o.guard with
 | none => stK P n S o K
 | some _ => AG P n ops o S K
def adr (P : Program) [HasGlob P] (n : Nat) (ops : List Oper) : Ord → List Nat → St → (St → Prop) → Prop
 | .nil, _, S, K => K S
 | .q i r, N, S, K =>
  match ops[i]? with
  | some o =>
   match o.guard with
   | none => dstOk n o.dst ∧ qK P true S o.op fun d => adr P n ops r N (S.set o.dst d) K
   | some _ =>
    match gcond ops S o with
    | some c => dstOk n o.dst ∧ qK P c S o.op fun d => adr P n ops r N (S.set o.dst (.when c d)) K
    | none => False
  | none => False
 | .nb r, _, S, K => adr P n ops r [] S K
 | .kq i r j r', N, S, K =>
  match ops[i]?, ops[j]? with
  | some o, some o' =>
   (match o.guard with
   | none => dstOk n o.dst ∧ qK P true S o.op fun d => adr P n ops r N (S.set o.dst d) K
   | some _ =>
    match gcond ops S o with
    | some c => dstOk n o.dst ∧ qK P c S o.op fun d => adr P n ops r N (S.set o.dst (.when c d)) K
    | none => False) ∧ opK P n ops o' S (fun S' => adr P n ops r' [] S' K)
  | _, _ => False
 | .kp i r, N, S, K =>
  match ops[i]? with
  | some o => kpK P n ops N S o fun N' S' => adr P n ops r N' S' K
  | none => False
 | .one i r, _, S, K =>
  match ops[i]? with
  | some o => opK P n ops o S fun S' => adr P n ops r [] S' K
  | none => False
 | .two i r j r', _, S, K =>
  match ops[i]?, ops[j]? with
  | some o, some o' => opK P n ops o S (fun S' => adr P n ops r [] S' K) ∧ opK P n ops o' S (fun S' => adr P n ops r' [] S' K)
  | _, _ => False
 | .three i r j r1 k r2, _, S, K => (∃ o, ops[i]? = some o ∧ opK P n ops o S (fun S' => adr P n ops r [] S' K)) ∧ (∃ o, ops[j]? = some o ∧ opK P n ops o S (fun S' => adr P n ops r1 [] S' K)) ∧ (∃ o, ops[k]? = some o ∧ opK P n ops o S (fun S' => adr P n ops r2 [] S' K))
 | .four i r j r1 k r2 l r3, _, S, K => (∃ o, ops[i]? = some o ∧ opK P n ops o S (fun S' => adr P n ops r [] S' K)) ∧ (∃ o, ops[j]? = some o ∧ opK P n ops o S (fun S' => adr P n ops r1 [] S' K)) ∧ (∃ o, ops[k]? = some o ∧ opK P n ops o S (fun S' => adr P n ops r2 [] S' K)) ∧ (∃ o, ops[l]? = some o ∧ opK P n ops o S (fun S' => adr P n ops r3 [] S' K))
 | .sk i r, N, S, K =>
  match ops[i]? with
  | some o => gcond ops S o = some false ∧ dstOk n o.dst ∧ adr P n ops r N (S.set o.dst (.v undef)) K
  | none => False
 | .kp2 i r j r', N, S, K =>
  match ops[i]?, ops[j]? with
  | some o, some o' => kpK P n ops N S o (fun N' S' => adr P n ops r N' S' K) ∧ kpK P n ops N S o' (fun N' S' => adr P n ops r' N' S' K)
  | _, _ => False
 | .kp3 i r j r1 k r2, N, S, K => (∃ o, ops[i]? = some o ∧ kpK P n ops N S o (fun N' S' => adr P n ops r N' S' K)) ∧ (∃ o, ops[j]? = some o ∧ kpK P n ops N S o (fun N' S' => adr P n ops r1 N' S' K)) ∧ (∃ o, ops[k]? = some o ∧ kpK P n ops N S o (fun N' S' => adr P n ops r2 N' S' K))
section
variable {w0 : World} {B : Nat → Nat → Prop} {C0 : Ctx} {n : Nat} {S : St} {C : Ctx} {a : Act} {w we : World}
def NewN (we : World) (N : List Nat) (S : St) (C : Ctx) : Prop := ∀ s ∈ N, ∀ g x u b, look S.heap s = some (g, x) → C.val s g = some u → blk u = some b → we.heap.size ≤ b
def NextN (we : World) (w0 : World) (B : Nat → Nat → Prop) (C0 : Ctx) (n : Nat) (K : List Nat → St → Prop) : Act → World → Prop :=
 fun a w' => ∃ N S C, K N S ∧ Inv w0 B C0 n S C a w' ∧ Same we w' ∧ NewN we N S C
theorem NewN.step {N : List Nat} {S' : St} {C' : Ctx} (hN : NewN we N S C) (hwe : we.heap.size ≤ w.heap.size) (h : Trk S C w S' C') : NewN we N S' C' := fun s hs g x u b h1 h2 h3 => by
 rcases h s g x u b h1 h2 h3 with h | ⟨g0, x0, u0, p1, p2, p3⟩
 ·omega
 ·exact hN s hs g0 x0 u0 b p1 p2 p3
theorem NewN.add {N : List Nat} {S' : St} {C' : Ctx} {t : Nat} (hN : NewN we N S C) (hwe : we.heap.size ≤ w.heap.size) (h : Trk S C w S' C') (ha : NewAt w S' C' t) : NewN we (t :: N) S' C' := fun s hs g x u b h1 h2 h3 => by
 rcases List.mem_cons.1 hs with rfl | hs
 ·have := ha g x u b h1 h2 h3; omega
 ·exact hN.step hwe h s hs g x u b h1 h2 h3
theorem kp_ok (E : Env P w0 B C0) (I : Inv w0 B C0 n S C a w) {N : List Nat} {o : Oper} {K : List Nat → St → Prop} (hN : NewN we N S C) (hsw : Same we w) (h : kpU P n N S o K) (Q : Exit → Act → World → Prop) :
  o.wp P a w (NextN we w0 B C0 n K) Q := by
 have hwe := hsw.1
 obtain ⟨dst, op, ty, pos, after, guard⟩ := o
 obtain ⟨_, h⟩ := h
 have fin : ∀ {t' : Nat}, Oper.wp P ⟨some t', op, ty, pos, after, guard⟩ a w (NextT w0 B C0 n (K (t' :: N)) S C w t') Q → Oper.wp P ⟨some t', op, ty, pos, after, guard⟩ a w (NextN we w0 B C0 n K) Q := fun h =>
  Oper.wp_mono (fun a' w' ⟨S', C', h1, h2, h3, h4, h5⟩ => ⟨_, S', C', h1, h2, hsw.trans h3, hN.add hwe h4 h5⟩) h
 cases op with
 | alloc t =>
  obtain ⟨hd, h⟩ := h
  cases dst with
  | none => exact h.elim
  | some t' =>
   simp only at h
   cases hz : zeroOf P t with
   | none => rw [hz] at h; exact h.elim
   | some zs => rw [hz] at h; exact fin (alloc_step I rfl rfl hd hz h.1 h.2 Q)
 | box t x =>
  obtain ⟨hd, h⟩ := h
  cases dst with
  | none => exact h.elim
  | some t' => exact fin (box_step I rfl rfl hd h Q)
 | buildSlice t len parts =>
  obtain ⟨hd, h⟩ := h
  cases dst with
  | none => exact h.elim
  | some t' =>
   simp only at h
   cases hs : slOf P t with
   | none => rw [hs] at h; exact h.elim
   | some p =>
    obtain ⟨e, sz, by'⟩ := p
    rw [hs] at h
    obtain ⟨hz, h1, h2, h3, h4⟩ := h
    obtain ⟨zs, hz⟩ := Option.isSome_iff_exists.1 hz
    exact fin (buildSlice_step I rfl rfl hd hs hz h1 h2 h3 h4 Q)
 | makeSlice t x y =>
  obtain ⟨hd, h⟩ := h
  cases dst with
  | none => exact h.elim
  | some t' =>
   simp only at h
   cases hs : slOf P t with
   | none => rw [hs] at h; exact h.elim
   | some p =>
    obtain ⟨e, sz, by'⟩ := p
    rw [hs] at h
    simp only at h
    cases hz : zeroOf P e with
    | none => rw [hz] at h; exact h.elim
    | some zs => rw [hz] at h; exact fin (make_step I rfl rfl hd hs hz h.1 h.2 Q)
 | call cl =>
  obtain ⟨callee, args, argTypes⟩ := cl
  cases callee with
  | value fx =>
   obtain ⟨hd, h⟩ := h
   exact Oper.wp_mono (fun a' w' ⟨S', C', h1, h2, h3, h4⟩ => ⟨_, S', C', h1, h2, hsw.trans h3, hN.step hwe h4⟩) (call_step E I rfl hd h Q)
  | invoke r m => exact h.elim
  | builtin b =>
   cases b with
   | append =>
    simp only at h
    -- the operands
    have main : ∀ (t : Nat) (y : Operand) (N' : List Nat) (d : D), args.toList = [.tmp t, y] → look S.slots t = some d → stK P n S ⟨dst, .call ⟨.builtin .append, args, argTypes⟩, ty, pos, after, guard⟩ (K N') →
      ((∃ s g, d = .own s g ∧ s ∈ N ∧ N' = N) ∨ (d = .v (.slice none 0 0) ∧ N' = dst.toList ++ N)) →
      Oper.wp P ⟨dst, .call ⟨.builtin .append, args, argTypes⟩, ty, pos, after, guard⟩ a w (NextN we w0 B C0 n K) Q := fun t y N' d ha hl hst hcase => by
     clear h
     obtain ⟨hd, h⟩ := hst
     cases dst with
     | none => exact h.elim
     | some t' =>
      simp only [ha] at h
      cases ht : argTypes.toList with
      | nil => rw [ht] at h; exact h.elim
      | cons t1 l =>
       cases l with
       | nil => rw [ht] at h; exact h.elim
       | cons t2 l =>
        cases l with
        | cons _ _ => rw [ht] at h; exact h.elim
        | nil =>
         rw [ht] at h
         obtain ⟨rfl, h⟩ := h
         have e1 := arr_of_list ha
         have e2 := arr_of_list ht
         subst e1 e2
         cases hs : slOf P t2 with
         | none => rw [hs] at h; exact h.elim
         | some p =>
          obtain ⟨e, sz, by'⟩ := p
          rw [hs] at h
          obtain ⟨hz, hpos, h⟩ := h
          obtain ⟨zs, hz⟩ := Option.isSome_iff_exists.1 hz
          obtain ⟨u, hu, hr⟩ := I.slots t d hl
          have hev : a.eval (.tmp t) = u := by simp [Act.eval, hu]
          refine Oper.wp_mono (fun a' w' ⟨S', C', h1, h2, h3, h4, h5⟩ => ⟨_, S', C', h1, h2, h3 we (fun b hb => ?_) hsw, ?_⟩) (append_step I rfl rfl hd hs hz hpos h Q)
          ·rw [hev] at hb
           rcases hcase with ⟨s, g, rfl, hsN, _⟩ | ⟨rfl, _⟩
           ·cases hr with
            | own _ _ _ hv _ =>
             have hro : ∃ x, look S.heap s = some (g, x) := by
              have h' : evK true S y fun dy => appK S e sz by' t' (.own s g) dy (K N') := by
               have e1 : evK true S (.tmp t) (fun dx => evK true S y fun dy => appK S e sz by' t' dx dy (K N')) = evK true S y fun dy => appK S e sz by' t' (.own s g) dy (K N') := by
                show (match look S.slots t with | some d => unwK true d fun dx => evK true S y fun dy => appK S e sz by' t' dx dy (K N') | none => False) = _
                rw [hl]
                rfl
               exact e1 ▸ h
              obtain ⟨dy, hy, _⟩ := evK_ok I h'
              unfold appK at hy
              split at hy
              ·obtain ⟨_, hy⟩ := hy
               simp only at hy
               split at hy
               ·rename_i hro; exact ⟨_, rowOf_spec hro⟩
               ·exact hy.elim
              ·exact hy.elim
             obtain ⟨x, hx⟩ := hro
             exact hN s hsN g x u b hx hv hb
           ·obtain rfl := hr.v_inv
            cases hb
          ·rcases hcase with ⟨s, g, rfl, hsN, rfl⟩ | ⟨rfl, rfl⟩
           ·exact hN.step hwe h4
           ·refine hN.add hwe h4 (h5 ?_ (fun s g hev' => ?_) (fun k es hev' => ?_))
            ·rw [hev]; exact hr.v_inv
            ·simp only [evK, hl, unwK] at hev'
             cases hev'
            ·simp only [evK, hl, unwK] at hev'
             cases hev'
    split at h
    ·rename_i t y ha
     split at h
     ·rename_i s g hl
      exact main t y N _ ha hl h.2 (.inl ⟨s, g, rfl, h.1, rfl⟩)
     ·rename_i hl
      exact main t y _ _ ha hl h (.inr ⟨rfl, rfl⟩)
     ·exact h.elim
    ·exact h.elim
   | _ => exact h.elim
 | _ => exact h.elim
theorem NewN.set {N : List Nat} {dst : Option Nat} {d : D} (hN : NewN we N S C) : NewN we N (S.set dst d) C := fun s hs g x u b h1 h2 h3 => by
 cases dst with
 | none => exact hN s hs g x u b h1 h2 h3
 | some t => exact hN s hs g x u b h1 h2 h3
theorem kp_any {ops : List Oper} {Q : Exit → Act → World → Prop} (E : Env P w0 B C0) (I : Inv w0 B C0 n S C a w) {i : Nat} {o : Oper} (ho : ops[i]? = some o) {N : List Nat} {K : List Nat → St → Prop} (hN : NewN we N S C) (hsw : Same we w) (h : kpK P n ops N S o K)
  {M : Act → World → Prop} (hM : ∀ a w, NextN we w0 B C0 n K a w → M a w) : wpOp P ops.toArray Q i M a w := by
 have ho' : ops.toArray[i]? = some o := by simpa using ho
 unfold wpOp
 simp only [ho']
 unfold kpK at h
 cases hg : o.guard with
 | none =>
  rw [hg] at h
  have hw : Region.wanted o (yielded ops.toArray a.tmps) = true := by simp [Region.wanted, hg]
  rw [if_pos hw]
  exact .inl (Oper.wp_mono hM (kp_ok E I hN hsw h Q))
 | some g =>
  rw [hg] at h
  obtain ⟨dst, op, ty, pos, after, guard⟩ := o
  cases op with
  | call cl =>
   obtain ⟨callee, args, argTypes⟩ := cl
   cases callee with
   | value fx =>
    simp only at h
    cases hc : gcond ops S ⟨dst, .call ⟨.value fx, args, argTypes⟩, ty, pos, after, guard⟩ with
    | none => rw [hc] at h; exact h.elim
    | some c =>
     rw [hc] at h
     obtain ⟨hd, h⟩ := h
     rw [gcond_ok I hc]
     cases c with
     | true =>
      rw [if_pos rfl]
      obtain ⟨df, ds, uf, us, ⟨r0, hK, hk⟩, hf, hrep, hrun⟩ := call_run (P := P) (o := ⟨dst, .call { callee := .value fx, args := args, argTypes := argTypes }, ty, pos, after, guard⟩) I rfl h
      obtain ⟨f, cs, hfe, hok, hcall⟩ := hK rfl us uf E I hrep hf
      refine .inl ?_
      unfold Oper.wp
      rw [hrun f cs hfe hok]
      refine hcall.mono ?_
      rintro e w' ⟨u, r, S', C', rfl, ⟨rfl, rfl⟩, hru, I', hs, ht⟩
      exact hM _ _ ⟨N, _, C', hk, I'.set (dstOk_spec hd) (.whenT _ _ hru), hsw.trans hs, (hN.step hsw.1 ht).set⟩
     | false =>
      rw [if_neg (by simp)]
      obtain ⟨df, hds, _⟩ := evK_ok I h
      obtain ⟨ds, ⟨r0, _, hk⟩, _⟩ := evsK_ok I hds
      exact hM _ _ ⟨N, _, C, hk, I.set (dstOk_spec hd) (.whenF _), hsw, hN.set⟩
   | _ => exact h.elim
  | _ => exact h.elim
def TW (we : World) (G : List Nat) (L : Array Bool) (w : World) : Prop := clear G L = true → Same we w
theorem op_any {ops : List Oper} {Q : Exit → Act → World → Prop} (E : Env P w0 B C0) (I : Inv w0 B C0 n S C a w) {i : Nat} {o : Oper} (ho : ops[i]? = some o) {K : St → Prop} (h : opK P n ops o S K) {N : Act → World → Prop} (hN : ∀ a w, NextOk w0 B C0 n K a w → N a w) :
  wpOp P ops.toArray Q i N a w := by
 have ho' : ops.toArray[i]? = some o := by simpa using ho
 unfold wpOp
 simp only [ho']
 unfold opK at h
 cases hg : o.guard with
 | none =>
  rw [hg] at h
  have hw : Region.wanted o (yielded ops.toArray a.tmps) = true := by simp [Region.wanted, hg]
  rw [if_pos hw]
  exact .inl (Oper.wp_mono hN (st_ok E I h Q))
 | some g =>
  rw [hg] at h
  have := h E I N Q hN
  split
  ·rename_i hw; rw [if_pos hw] at this; exact .inl this
  ·rename_i hw; rw [if_neg hw] at this; exact this
theorem set_listed {ops : Array Oper} {L : Array Bool} {i : Nat} (h : i ∈ Region.ready .any ops L) : (L.setIfInBounds i true).getD i false = true := by
 have h0 := (mem_ready.1 h).1
 have hlt : i < L.size := by
  rcases Nat.lt_or_ge i L.size with h' | h'
  ·exact h'
  ·simp [Array.getElem?_eq_none h'] at h0
 simp [hlt]
theorem TW_not {we w : World} {G : List Nat} {L : Array Bool} {g : Nat} (hg : g ∈ G) (hl : L.getD g false = true) : TW we G L w := fun hc => by
 have := List.all_eq_true.1 hc g hg
 rw [hl] at this
 cases this
theorem adr_ok (E : Env P w0 B C0) {ops : List Oper} (hsel : Region.noSelect ops.toArray = true) {K : St → Prop} {Q : Exit → Act → World → Prop} (hQn : ∀ a w, NextOk w0 B C0 n K a w → Q .normal a w) (hQp : ∀ c a w, ¬ Q (.panic c) a w) :
  ∀ (r : Ord) (we : World) (L : Array Bool) (solo : Bool) (N : List Nat) (S : St) (C : Ctx) (a : Act) (w : World) (m : Nat), r.depth ≤ m → drOk ops.toArray r L solo = true → Valid ops.toArray L → Inv w0 B C0 n S C a w → NewN we N S C →
   (solo = false → w.heap = we.heap) → Same we w → adr P n ops r N S K → wpAnyT P ops.toArray Q (TW we r.gs) m L a w := by
 intro r
 -- behind a general operation
 have gen : ∀ (r : Ord), (∀ (we : World) (L : Array Bool) (solo : Bool) (N : List Nat) (S : St) (C : Ctx) (a : Act) (w : World) (m : Nat), r.depth ≤ m → drOk ops.toArray r L solo = true → Valid ops.toArray L → Inv w0 B C0 n S C a w → NewN we N S C →
   (solo = false → w.heap = we.heap) → Same we w → adr P n ops r N S K → wpAnyT P ops.toArray Q (TW we r.gs) m L a w) → ∀ (we : World) (G : List Nat) (L : Array Bool) (S : St) (C : Ctx) (a : Act) (w : World) (m : Nat) (i : Nat) (o : Oper),
   r.depth ≤ m → drOk ops.toArray r (L.setIfInBounds i true) false = true → Valid ops.toArray L → Inv w0 B C0 n S C a w → i ∈ G → i ∈ Region.ready .any ops.toArray L → ops[i]? = some o → opK P n ops o S (fun S' => adr P n ops r [] S' K) →
   wpOp P ops.toArray Q i (fun a' w' => TW we G (L.setIfInBounds i true) w' ∧ wpAnyT P ops.toArray Q (TW we G) m (L.setIfInBounds i true) a' w') a w := by
  intro r ih we G L S C a w m i o hm hok hv I hiG hrd ho h
  have hls := set_listed hrd
  refine op_any E I ho h fun a' w' ⟨S', C', hK, I'⟩ => ⟨TW_not hiG hls, ?_⟩
  exact wpAnyT_mono (T' := TW w' r.gs) (i := i) (fun L'' w'' hl _ => TW_not hiG hl) m _ a' w' hls
   (ih w' _ false [] S' C' a' w' m hm hok (hv.set hrd) I' (fun _ h => absurd h (by simp)) (fun _ => rfl) (Same.refl _) hK)
 induction r with
 | nil =>
  intro we L solo N S C a w m _ hok hv I hN hso hsw h
  simp only [drOk, List.isEmpty_iff] at hok
  exact wpAnyT_done hok (hQn _ _ ⟨S, C, h, I⟩) _
 | q i r ih =>
  intro we L solo N S C a w m hm hok hv I hN hso hsw h
  obtain ⟨m, rfl⟩ : ∃ m', m = m' + 1 := ⟨m - 1, by simp only [Ord.depth] at hm; omega⟩
  have hm : r.depth ≤ m := by simp only [Ord.depth] at hm; omega
  simp only [drOk, Bool.and_eq_true, Bool.not_eq_true'] at hok
  obtain ⟨⟨⟨⟨hrd, hfr⟩, hiG⟩, hld⟩, hok⟩ := hok
  have hrd' : i ∈ Region.ready .any ops.toArray L := by simpa using hrd
  have hiG' : i ∉ r.gs := by simpa using hiG
  simp only [adr] at h
  cases ho : ops[i]? with
  | none => rw [ho] at h; exact h.elim
  | some o =>
   rw [ho] at h
   have ho' : ops.toArray[i]? = some o := by simpa using ho
   rw [ho'] at hld
   simp only at h
   -- the value, and the state behind it
   have key : ∃ v S', YieldsIf P ops.toArray (fun w' => isLoad o.op = true → Same we w') o v a ∧ Inv w0 B C0 n S' C (a.put o.dst v) w ∧ adr P n ops r N S' K ∧ NewN we N S' C := by
    have put : ∀ (d : D) , NewN we N (S.set o.dst d) C := fun d s hs g x u b h1 h2 h3 => by
     cases hdst : o.dst with
     | none => rw [hdst] at h1; exact hN s hs g x u b h1 h2 h3
     | some t => rw [hdst] at h1; exact hN s hs g x u b h1 h2 h3
    have same : ∀ w' : World, (isLoad o.op = true → Same we w') → isLoad o.op = true → Same w w' := fun w' h hl => by
     have h1 := h hl
     have h2 : solo = false := by
      simp only [hl, Bool.not_true, Bool.false_or, Bool.and_eq_true] at hld
      simpa using hld.1
     have h3 := hso h2
     unfold Same at h1 ⊢
     rw [h3]
     exact h1
    cases hg : o.guard with
    | none =>
     rw [hg] at h
     obtain ⟨hd, h⟩ := h
     obtain ⟨d, hk, hr⟩ := q_ok I h
     obtain ⟨u, hu, hrun⟩ := hr rfl
     exact ⟨u, _, .inl ⟨by simp [Region.wanted, hg], fun w' hw' => hrun w' (same w' hw')⟩, I.set (dstOk_spec hd) hu, hk, put d⟩
    | some gd =>
     rw [hg] at h
     simp only at h
     cases hc : gcond ops S o with
     | none => rw [hc] at h; exact h.elim
     | some c =>
      rw [hc] at h
      obtain ⟨hd, h⟩ := h
      obtain ⟨d, hk, hr⟩ := q_ok I h
      have hw := gcond_ok I hc
      cases c with
      | true =>
       obtain ⟨u, hu, hrun⟩ := hr rfl
       exact ⟨u, _, .inl ⟨hw, fun w' hw' => hrun w' (same w' hw')⟩, I.set (dstOk_spec hd) (.whenT _ _ hu), hk, put _⟩
      | false => exact ⟨undef, _, .inr ⟨hw, rfl⟩, I.set (dstOk_spec hd) (.whenF _), hk, put _⟩
   obtain ⟨v, S', hy, I', hadr, hN'⟩ := key
   refine wpAnyT_first ho' (fun L w hT hc => hT (by rw [clear_set (G := (Ord.q i r).gs) hiG']; exact hc)) (fun j o cs b => Region.noSelect_spec hsel j o cs b) (fun c a w h => absurd h (hQp _ _ _)) (V := fun w' => isLoad o.op = true → Same we w')
    (fun L' w' hv' hil hT hl => ?_) _ L a w (Region.free_spec ho' hfr) hv hrd' hy (fun _ => hsw) ?_ (fun _ => hsw)
   ·simp only [hl, Bool.not_true, Bool.false_or, Bool.and_eq_true] at hld
    refine hT (List.all_eq_true.2 fun g hg => ?_)
    simp only [Bool.not_eq_true']
    have hrg := List.all_eq_true.1 hld.2 g hg
    cases hgl : L'.getD g false with
    | false => rfl
    | true =>
     cases hog : ops.toArray[g]? with
     | none =>
      exfalso
      cases hsz : ops.toArray.size with
      | zero => rw [hsz] at hrg; simp [reach] at hrg
      | succ m => rw [hsz] at hrg; simp only [reach, hog] at hrg; cases hrg
     | some og =>
      have := reach_listed hv' _ _ _ hog hrg (hv' g og hog hgl)
      rw [hil] at this; cases this
   ·exact ih we _ solo N S' C _ w m hm hok (hv.set hrd') I' hN' hso hsw hadr
 | kp i r ih =>
  intro we L solo N S C a w m hm hok hv I hN hso hsw h
  obtain ⟨m, rfl⟩ : ∃ m', m = m' + 1 := ⟨m - 1, by simp only [Ord.depth] at hm; omega⟩
  have hm : r.depth ≤ m := by simp only [Ord.depth] at hm; omega
  simp only [drOk, Bool.and_eq_true, Bool.not_eq_true', beq_iff_eq] at hok
  obtain ⟨⟨hrd, hiG⟩, hok⟩ := hok
  simp only [adr] at h
  cases ho : ops[i]? with
  | none => rw [ho] at h; exact h.elim
  | some o =>
   rw [ho] at h
   have ho' : ops.toArray[i]? = some o := by simpa using ho
   refine wpAnyT_only hrd (kp_any E I ho hN hsw h ?_)
   rintro a' w' ⟨N', S', C', hK, I', hs, hN'⟩
   exact ⟨fun _ => hs, ih we _ true N' S' C' a' w' m hm hok (hv.set (by rw [hrd]; simp)) I' hN' (fun h => by cases h) hs hK⟩
 | kq i r j r' ih ih' =>
  intro we L solo N S C a w m hm hok hv I hN hso hsw h
  obtain ⟨m, rfl⟩ : ∃ m', m = m' + 1 := ⟨m - 1, by simp only [Ord.depth] at hm; omega⟩
  have hm1 : r.depth ≤ m := by simp only [Ord.depth] at hm; omega
  have hm2 : r'.depth ≤ m := by simp only [Ord.depth] at hm; omega
  simp only [drOk, Bool.and_eq_true, beq_iff_eq, Bool.or_eq_true] at hok
  obtain ⟨⟨⟨⟨hrd, hgs⟩, hij⟩, hok1⟩, hok2⟩ := hok
  simp only [adr] at h
  cases ho : ops[i]? with
  | none => rw [ho] at h; exact h.elim
  | some o =>
   cases ho2 : ops[j]? with
   | none => rw [ho, ho2] at h; exact h.elim
   | some o' =>
    rw [ho, ho2] at h
    have ho' : ops.toArray[i]? = some o := by simpa using ho
    have hmi : i ∈ Region.ready .any ops.toArray L := by rcases hrd with h | h <;> rw [h] <;> simp
    have hmj : j ∈ Region.ready .any ops.toArray L := by rcases hrd with h | h <;> rw [h] <;> simp
    have A : wpOp P ops.toArray Q i (fun a' w' => TW we [j] (L.setIfInBounds i true) w' ∧ wpAnyT P ops.toArray Q (TW we [j]) m (L.setIfInBounds i true) a' w') a w := by
     have key : ∃ v S', YieldsIf P ops.toArray (fun w' => isLoad o.op = true → Same w w') o v a ∧ Inv w0 B C0 n S' C (a.put o.dst v) w ∧ adr P n ops r N S' K ∧ NewN we N S' C := by
      have put : ∀ (d : D) , NewN we N (S.set o.dst d) C := fun d s hs g x u b h1 h2 h3 => by
       cases hdst : o.dst with
       | none => rw [hdst] at h1; exact hN s hs g x u b h1 h2 h3
       | some t => rw [hdst] at h1; exact hN s hs g x u b h1 h2 h3
      have h := h.1
      cases hg : o.guard with
      | none =>
       rw [hg] at h
       obtain ⟨hd, h⟩ := h
       obtain ⟨d, hk, hr⟩ := q_ok I h
       obtain ⟨u, hu, hrun⟩ := hr rfl
       exact ⟨u, _, .inl ⟨by simp [Region.wanted, hg], fun w' hw' => hrun w' hw'⟩, I.set (dstOk_spec hd) hu, hk, put d⟩
      | some gd =>
       rw [hg] at h
       simp only at h
       cases hc : gcond ops S o with
       | none => rw [hc] at h; exact h.elim
       | some c =>
        rw [hc] at h
        obtain ⟨hd, h⟩ := h
        obtain ⟨d, hk, hr⟩ := q_ok I h
        have hw := gcond_ok I hc
        cases c with
        | true =>
         obtain ⟨u, hu, hrun⟩ := hr rfl
         exact ⟨u, _, .inl ⟨hw, fun w' hw' => hrun w' hw'⟩, I.set (dstOk_spec hd) (.whenT _ _ hu), hk, put _⟩
        | false => exact ⟨undef, _, .inr ⟨hw, rfl⟩, I.set (dstOk_spec hd) (.whenF _), hk, put _⟩
     obtain ⟨v, S', hy, I', hadr, hN'⟩ := key
     refine hy.wpOp ho' (fun _ => Same.refl _) ⟨fun _ => hsw, ?_⟩
     have := ih we _ true N S' C _ w m hm1 hok1 (hv.set hmi) I' hN' (fun h => by cases h) hsw hadr
     rw [hgs] at this
     exact this
    have Bq := gen r' ih' we [j] L S C a w m j o' hm2 hok2 hv I (by simp) hmj ho2 h.2
    rcases hrd with hrd | hrd
    ·exact wpAnyT_two hrd A Bq
    ·exact wpAnyT_two hrd Bq A
 | nb r ih =>
  intro we L solo N S C a w m hm hok hv I hN hso hsw h
  simp only [drOk] at hok
  simp only [adr] at h
  exact wpAnyT_mono' (T' := TW w r.gs) (fun L' w' ht hc => hsw.trans (ht hc)) m L a w
   (ih w L false [] S C a w m hm hok hv I (fun _ h => absurd h (by simp)) (fun _ => rfl) (Same.refl _) h)
 | sk i r ih =>
  intro we L solo N S C a w m hm hok hv I hN hso hsw h
  obtain ⟨m, rfl⟩ : ∃ m', m = m' + 1 := ⟨m - 1, by simp only [Ord.depth] at hm; omega⟩
  have hm : r.depth ≤ m := by simp only [Ord.depth] at hm; omega
  simp only [drOk, Bool.and_eq_true, Bool.not_eq_true'] at hok
  obtain ⟨⟨⟨hrd, hfr⟩, hiG⟩, hok⟩ := hok
  have hrd' : i ∈ Region.ready .any ops.toArray L := by simpa using hrd
  have hiG' : i ∉ r.gs := by simpa using hiG
  simp only [adr] at h
  cases ho : ops[i]? with
  | none => rw [ho] at h; exact h.elim
  | some o =>
   rw [ho] at h
   have ho' : ops.toArray[i]? = some o := by simpa using ho
   obtain ⟨hc, hd, hadr⟩ := h
   have hw := gcond_ok I hc
   have hN' : NewN we N (S.set o.dst (.v undef)) C := fun s hs g x u b h1 h2 h3 => by
    cases hdst : o.dst with
    | none => rw [hdst] at h1; exact hN s hs g x u b h1 h2 h3
    | some t => rw [hdst] at h1; exact hN s hs g x u b h1 h2 h3
   have hy : YieldsIf P ops.toArray (fun _ => True) o undef a := .inr ⟨hw, rfl⟩
   refine wpAnyT_first ho' (fun L w hT hc => hT (by rw [clear_set (G := (Ord.sk i r).gs) hiG']; exact hc)) (fun j o cs b => Region.noSelect_spec hsel j o cs b) (fun c a w h => absurd h (hQp _ _ _)) (V := fun _ => True)
    (fun _ _ _ _ _ => trivial) _ L a w (Region.free_spec ho' hfr) hv hrd' hy trivial ?_ (fun _ => hsw)
   exact ih we _ solo N _ C _ w m hm hok (hv.set hrd') (I.set (dstOk_spec hd) (.v _)) hN' hso hsw hadr
 | kp2 i r j r' ih ih' =>
  intro we L solo N S C a w m hm hok hv I hN hso hsw h
  obtain ⟨m, rfl⟩ : ∃ m', m = m' + 1 := ⟨m - 1, by simp only [Ord.depth] at hm; omega⟩
  have hm1 : r.depth ≤ m := by simp only [Ord.depth] at hm; omega
  have hm2 : r'.depth ≤ m := by simp only [Ord.depth] at hm; omega
  simp only [drOk, Bool.and_eq_true, beq_iff_eq] at hok
  obtain ⟨⟨⟨hrd, hgs⟩, hok1⟩, hok2⟩ := hok
  simp only [adr] at h
  cases ho : ops[i]? with
  | none => rw [ho] at h; exact h.elim
  | some o =>
   cases ho2 : ops[j]? with
   | none => rw [ho, ho2] at h; exact h.elim
   | some o' =>
    rw [ho, ho2] at h
    have ho' : ops.toArray[i]? = some o := by simpa using ho
    have ho2' : ops.toArray[j]? = some o' := by simpa using ho2
    refine wpAnyT_two hrd ?_ ?_
    ·refine kp_any E I ho hN hsw h.1 ?_
     rintro a' w' ⟨N', S', C', hK, I', hs, hN'⟩
     exact ⟨fun _ => hs, ih we _ true N' S' C' a' w' m hm1 hok1 (hv.set (by rw [hrd]; simp)) I' hN' (fun h => by cases h) hs hK⟩
    ·refine kp_any E I ho2 hN hsw h.2 ?_
     rintro a' w' ⟨N', S', C', hK, I', hs, hN'⟩
     have := ih' we _ true N' S' C' a' w' m hm2 hok2 (hv.set (by rw [hrd]; simp)) I' hN' (fun h => by cases h) hs hK
     rw [← hgs] at this
     exact ⟨fun _ => hs, this⟩
 | kp3 i r j r1 k r2 ih ih1 ih2 =>
  intro we L solo N S C a w m hm hok hv I hN hso hsw h
  obtain ⟨m, rfl⟩ : ∃ m', m = m' + 1 := ⟨m - 1, by simp only [Ord.depth] at hm; omega⟩
  have hm1 : r.depth ≤ m := by simp only [Ord.depth] at hm; omega
  have hm2 : r1.depth ≤ m := by simp only [Ord.depth] at hm; omega
  have hm3 : r2.depth ≤ m := by simp only [Ord.depth] at hm; omega
  simp only [drOk, Bool.and_eq_true, beq_iff_eq] at hok
  obtain ⟨⟨⟨⟨⟨hrd, hgs1⟩, hgs2⟩, hok1⟩, hok2⟩, hok3⟩ := hok
  simp only [adr] at h
  obtain ⟨⟨o, ho, h⟩, ⟨o1, ho1, h1⟩, ⟨o2, ho2, h2⟩⟩ := h
  have ho' : ops.toArray[i]? = some o := by simpa using ho
  have ho1' : ops.toArray[j]? = some o1 := by simpa using ho1
  have ho2' : ops.toArray[k]? = some o2 := by simpa using ho2
  refine wpAnyT_three hrd ?_ ?_ ?_
  ·refine kp_any E I ho hN hsw h ?_
   rintro a' w' ⟨N', S', C', hK, I', hs, hN'⟩
   exact ⟨fun _ => hs, ih we _ true N' S' C' a' w' m hm1 hok1 (hv.set (by rw [hrd]; simp)) I' hN' (fun h => by cases h) hs hK⟩
  ·refine kp_any E I ho1 hN hsw h1 ?_
   rintro a' w' ⟨N', S', C', hK, I', hs, hN'⟩
   have := ih1 we _ true N' S' C' a' w' m hm2 hok2 (hv.set (by rw [hrd]; simp)) I' hN' (fun h => by cases h) hs hK
   rw [← hgs1] at this
   exact ⟨fun _ => hs, this⟩
  ·refine kp_any E I ho2 hN hsw h2 ?_
   rintro a' w' ⟨N', S', C', hK, I', hs, hN'⟩
   have := ih2 we _ true N' S' C' a' w' m hm3 hok3 (hv.set (by rw [hrd]; simp)) I' hN' (fun h => by cases h) hs hK
   rw [← hgs2] at this
   exact ⟨fun _ => hs, this⟩
 | one i r ih =>
  intro we L solo N S C a w m hm hok hv I hN hso hsw h
  obtain ⟨m, rfl⟩ : ∃ m', m = m' + 1 := ⟨m - 1, by simp only [Ord.depth] at hm; omega⟩
  have hm : r.depth ≤ m := by simp only [Ord.depth] at hm; omega
  simp only [drOk, Bool.and_eq_true, beq_iff_eq] at hok
  simp only [adr] at h
  cases ho : ops[i]? with
  | none => rw [ho] at h; exact h.elim
  | some o =>
   rw [ho] at h
   exact wpAnyT_only hok.1 (gen r ih we _ L S C a w m i o hm hok.2 hv I (by simp [Ord.gs]) (by rw [hok.1]; simp) ho h)
 | two i r j r' ih ih' =>
  intro we L solo N S C a w m hm hok hv I hN hso hsw h
  obtain ⟨m, rfl⟩ : ∃ m', m = m' + 1 := ⟨m - 1, by simp only [Ord.depth] at hm; omega⟩
  have hm1 : r.depth ≤ m := by simp only [Ord.depth] at hm; omega
  have hm2 : r'.depth ≤ m := by simp only [Ord.depth] at hm; omega
  simp only [drOk, Bool.and_eq_true, beq_iff_eq] at hok
  simp only [adr] at h
  cases ho : ops[i]? with
  | none => rw [ho] at h; exact h.elim
  | some o =>
   cases ho2 : ops[j]? with
   | none => rw [ho, ho2] at h; exact h.elim
   | some o' =>
    rw [ho, ho2] at h
    exact wpAnyT_two hok.1.1 (gen r ih we _ L S C a w m i o hm1 hok.1.2 hv I (by simp [Ord.gs]) (by rw [hok.1.1]; simp) ho h.1)
     (gen r' ih' we _ L S C a w m j o' hm2 hok.2 hv I (by simp [Ord.gs]) (by rw [hok.1.1]; simp) ho2 h.2)
 | three i r j r1 k r2 ih ih1 ih2 =>
  intro we L solo N S C a w m hm hok hv I hN hso hsw h
  obtain ⟨m, rfl⟩ : ∃ m', m = m' + 1 := ⟨m - 1, by simp only [Ord.depth] at hm; omega⟩
  have hm0 : r.depth ≤ m := by simp only [Ord.depth] at hm; omega
  have hm1 : r1.depth ≤ m := by simp only [Ord.depth] at hm; omega
  have hm2 : r2.depth ≤ m := by simp only [Ord.depth] at hm; omega
  simp only [drOk, Bool.and_eq_true, beq_iff_eq] at hok
  simp only [adr] at h
  obtain ⟨⟨o0, ho0, h0⟩, ⟨o1, ho1, h1⟩, ⟨o2, ho2, h2⟩⟩ := h
  exact wpAnyT_three hok.1.1.1
   (gen r ih we _ L S C a w m i o0 hm0 hok.1.1.2 hv I (by simp [Ord.gs]) (by rw [hok.1.1.1]; simp) ho0 h0)
   (gen r1 ih1 we _ L S C a w m j o1 hm1 hok.1.2 hv I (by simp [Ord.gs]) (by rw [hok.1.1.1]; simp) ho1 h1)
   (gen r2 ih2 we _ L S C a w m k o2 hm2 hok.2 hv I (by simp [Ord.gs]) (by rw [hok.1.1.1]; simp) ho2 h2)
 | four i r j r1 k r2 l r3 ih ih1 ih2 ih3 =>
  intro we L solo N S C a w m hm hok hv I hN hso hsw h
  obtain ⟨m, rfl⟩ : ∃ m', m = m' + 1 := ⟨m - 1, by simp only [Ord.depth] at hm; omega⟩
  have hm0 : r.depth ≤ m := by simp only [Ord.depth] at hm; omega
  have hm1 : r1.depth ≤ m := by simp only [Ord.depth] at hm; omega
  have hm2 : r2.depth ≤ m := by simp only [Ord.depth] at hm; omega
  have hm3 : r3.depth ≤ m := by simp only [Ord.depth] at hm; omega
  simp only [drOk, Bool.and_eq_true, beq_iff_eq] at hok
  simp only [adr] at h
  obtain ⟨⟨o0, ho0, h0⟩, ⟨o1, ho1, h1⟩, ⟨o2, ho2, h2⟩, ⟨o3, ho3, h3⟩⟩ := h
  exact wpAnyT_four hok.1.1.1.1
   (gen r ih we _ L S C a w m i o0 hm0 hok.1.1.1.2 hv I (by simp [Ord.gs]) (by rw [hok.1.1.1.1]; simp) ho0 h0)
   (gen r1 ih1 we _ L S C a w m j o1 hm1 hok.1.1.2 hv I (by simp [Ord.gs]) (by rw [hok.1.1.1.1]; simp) ho1 h1)
   (gen r2 ih2 we _ L S C a w m k o2 hm2 hok.1.2 hv I (by simp [Ord.gs]) (by rw [hok.1.1.1.1]; simp) ho2 h2)
   (gen r3 ih3 we _ L S C a w m l o3 hm3 hok.2 hv I (by simp [Ord.gs]) (by rw [hok.1.1.1.1]; simp) ho3 h3)
theorem awp_draw {n : Nat} {S : St} {Q : Exit → St → Prop} (hm : P.follows .mixedOrders = true) {id : Nat} {ops : List Oper} (order : Ord) (hsel : Region.noSelect ops.toArray = true)
  (hok : drOk ops.toArray order (Array.replicate ops.length false) false = true) (hlen : order.depth ≤ ops.length)
  (h : adr P n ops order [] S (Q .normal)) : AWp P n (.region id ops.toArray true) S Q := by
 intro w0 B C0 C a w E I
 have I' : Inv w0 B C0 n S C a { w with drawn := w.drawn + 1 } := I.quiet rfl rfl rfl rfl
 refine wp_mono (Q := fun e a w => e = .normal ∧ NextOk w0 B C0 n (Q .normal) a w) ?_ (fun e a w ⟨he, S, C, h1, h2⟩ => by subst he; exact ⟨S, C, h1, h2⟩)
 refine wp_region_any hm (wpAny_of_T (T := TW { w with drawn := w.drawn + 1 } order.gs) _ _ _ _ ?_)
 have := adr_ok (P := P) E hsel (K := Q .normal) (Q := fun e a w => e = .normal ∧ NextOk w0 B C0 n (Q .normal) a w)
  (fun a w h => ⟨rfl, h⟩) (fun c a w h => by cases h.1) order { w with drawn := w.drawn + 1 } (Array.replicate ops.length false) false [] S C a { w with drawn := w.drawn + 1 } ops.length hlen hok
  (fun k o _ hk => by simp [Array.getD] at hk) I' (fun _ h => absurd h (by simp)) (fun _ => rfl) (Same.refl _) h
 simpa using this
end
end Go.Eng
