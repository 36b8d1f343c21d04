import Derived.Test.YtmooampfjclmiaaGreatDoorTlAttr
import Derived.Test.YtmooampfjclmiaaGreatDoorProg
import Derived.KernelRfl
set_option linter.unusedSimpArgs false
set_option linter.unusedVariables false
namespace Go.TL.YtmooampfjclmiaaGreatDoor
open Go Go.Proofs
theorem tab_cons {P : Program} {t : Nat} {e : TE} {r : Tab} (h : OkT P t e) (k : TabOk P r) : TabOk P ((t, e) :: r) := fun p hp => by
  rcases List.mem_cons.1 hp with rfl | hp
  · exact h
  · exact k p hp
theorem tab_nil {P : Program} : TabOk P [] := fun p hp => by cases hp
def tab : Tab := [(2, ⟨1, 8, [(.int .i64 0)], (.int .i64)⟩), (3, ⟨1, 8, [(.int .i64 0)], (.int .i64)⟩), (4, ⟨1, 1, [(.bool false)], .bool⟩), (5, ⟨1, 1, [(.int .u8 0)], (.int .u8)⟩), (6, ⟨1, 1, [(.int .u8 0)], (.int .u8)⟩), (7, ⟨4, 24, [(.int .i64 0), (.int .i64 0), (.bool false), (.int .u8 0)], (.struct [(2, 0), (3, 1), (4, 2), (6, 3)])⟩), (8, ⟨4, 24, [(.int .i64 0), (.int .i64 0), (.bool false), (.int .u8 0)], (.struct [(2, 0), (3, 1), (4, 2), (6, 3)])⟩), (9, ⟨1, 16, [(.string .empty)], .str⟩), (10, ⟨1, 16, [(.string .empty)], .str⟩), (11, ⟨1, 16, [(.string .empty)], .str⟩), (12, ⟨1, 8, [(.int .u64 0)], (.int .u64)⟩), (13, ⟨2, 24, [(.string .empty), (.int .u64 0)], (.struct [(9, 0), (12, 1)])⟩), (14, ⟨2, 24, [(.string .empty), (.int .u64 0)], (.struct [(9, 0), (12, 1)])⟩), (15, ⟨1, 8, [(.pointer none)], .flat⟩), (16, ⟨1, 8, [(.pointer none)], .flat⟩), (17, ⟨1, 8, [(.pointer none)], .flat⟩), (18, ⟨1, 8, [(.pointer none)], (.struct [(17, 0)])⟩), (19, ⟨1, 8, [(.pointer none)], (.struct [(17, 0)])⟩), (21, ⟨1, 4, [(.int .i32 0)], (.int .i32)⟩), (22, ⟨1, 24, [(.slice none 0 0)], (.slice 102)⟩), (23, ⟨1, 24, [(.slice none 0 0)], (.struct [(22, 0)])⟩), (24, ⟨1, 24, [(.slice none 0 0)], (.struct [(22, 0)])⟩), (25, ⟨3, 40, [(.int .i64 0), (.int .i64 0), (.slice none 0 0)], (.struct [(3, 0), (3, 1), (24, 2)])⟩), (26, ⟨3, 40, [(.int .i64 0), (.int .i64 0), (.slice none 0 0)], (.struct [(3, 0), (3, 1), (24, 2)])⟩), (29, ⟨1, 24, [(.slice none 0 0)], (.slice 59)⟩), (30, ⟨1, 24, [(.slice none 0 0)], (.struct [(29, 0)])⟩), (31, ⟨1, 24, [(.slice none 0 0)], (.struct [(29, 0)])⟩), (32, ⟨3, 40, [(.int .i64 0), (.int .i64 0), (.slice none 0 0)], (.struct [(3, 0), (3, 1), (31, 2)])⟩), (33, ⟨3, 40, [(.int .i64 0), (.int .i64 0), (.slice none 0 0)], (.struct [(3, 0), (3, 1), (31, 2)])⟩), (39, ⟨1, 24, [(.slice none 0 0)], (.slice 26)⟩), (40, ⟨1, 24, [(.slice none 0 0)], (.slice 95)⟩), (41, ⟨2, 48, [(.slice none 0 0), (.slice none 0 0)], (.struct [(39, 0), (40, 1)])⟩), (42, ⟨2, 48, [(.slice none 0 0), (.slice none 0 0)], (.struct [(39, 0), (40, 1)])⟩), (45, ⟨1, 24, [(.slice none 0 0)], (.slice 33)⟩), (46, ⟨1, 24, [(.slice none 0 0)], (.slice 71)⟩), (47, ⟨2, 48, [(.slice none 0 0), (.slice none 0 0)], (.struct [(45, 0), (46, 1)])⟩), (48, ⟨2, 48, [(.slice none 0 0), (.slice none 0 0)], (.struct [(45, 0), (46, 1)])⟩), (57, ⟨1, 24, [(.slice none 0 0)], (.slice 61)⟩), (58, ⟨1, 24, [(.slice none 0 0)], (.struct [(57, 0)])⟩), (59, ⟨1, 24, [(.slice none 0 0)], (.struct [(57, 0)])⟩), (60, ⟨4, 40, [(.int .i64 0), (.int .i64 0), (.int .i64 0), (.string .empty)], (.struct [(3, 0), (3, 1), (3, 2), (9, 3)])⟩), (61, ⟨4, 40, [(.int .i64 0), (.int .i64 0), (.int .i64 0), (.string .empty)], (.struct [(3, 0), (3, 1), (3, 2), (9, 3)])⟩), (68, ⟨2, 32, [(.int .i64 0), (.slice none 0 0)], (.struct [(3, 0), (31, 1)])⟩), (69, ⟨2, 32, [(.int .i64 0), (.slice none 0 0)], (.struct [(3, 0), (31, 1)])⟩), (70, ⟨3, 40, [(.int .i64 0), (.int .i64 0), (.slice none 0 0)], (.struct [(3, 0), (69, 1)])⟩), (71, ⟨3, 40, [(.int .i64 0), (.int .i64 0), (.slice none 0 0)], (.struct [(3, 0), (69, 1)])⟩), (79, ⟨1, 8, [(.pointer none)], .flat⟩), (92, ⟨2, 32, [(.int .i64 0), (.slice none 0 0)], (.struct [(3, 0), (24, 1)])⟩), (93, ⟨2, 32, [(.int .i64 0), (.slice none 0 0)], (.struct [(3, 0), (24, 1)])⟩), (94, ⟨3, 40, [(.int .i64 0), (.int .i64 0), (.slice none 0 0)], (.struct [(3, 0), (93, 1)])⟩), (95, ⟨3, 40, [(.int .i64 0), (.int .i64 0), (.slice none 0 0)], (.struct [(3, 0), (93, 1)])⟩), (100, ⟨1, 24, [(.slice none 0 0)], (.slice 122)⟩), (101, ⟨1, 24, [(.slice none 0 0)], (.struct [(100, 0)])⟩), (102, ⟨1, 24, [(.slice none 0 0)], (.struct [(100, 0)])⟩), (114, ⟨1, 24, [(.slice none 0 0)], (.slice 9)⟩), (115, ⟨6, 80, [(.int .i64 0), (.int .i64 0), (.bool false), (.int .i64 0), (.slice none 0 0), (.slice none 0 0)], (.struct [(3, 0), (3, 1), (4, 2), (3, 3), (114, 4), (114, 5)])⟩), (116, ⟨6, 80, [(.int .i64 0), (.int .i64 0), (.bool false), (.int .i64 0), (.slice none 0 0), (.slice none 0 0)], (.struct [(3, 0), (3, 1), (4, 2), (3, 3), (114, 4), (114, 5)])⟩), (122, ⟨4, 40, [(.int .i64 0), (.int .i64 0), (.int .i64 0), (.string .empty)], (.struct [(3, 0), (3, 1), (3, 2), (9, 3)])⟩), (135, ⟨1, 24, [(.slice none 0 0)], (.slice 3)⟩), (142, ⟨1, 8, [(.pointer none)], .flat⟩), (158, ⟨1, 8, [(.pointer none)], .flat⟩), (159, ⟨1, 8, [(.int .u64 0)], (.int .u64)⟩), (169, ⟨2, 2, [(.int .u8 0), (.int .u8 0)], (.struct [(5, 0), (5, 1)])⟩), (170, ⟨2, 2, [(.int .u8 0), (.int .u8 0)], (.struct [(5, 0), (5, 1)])⟩), (176, ⟨4, 40, [(.pointer none), (.pointer none), (.pointer none), (.string .empty)], (.struct [(17, 0), (17, 1), (17, 2), (9, 3)])⟩), (177, ⟨4, 40, [(.pointer none), (.pointer none), (.pointer none), (.string .empty)], (.struct [(17, 0), (17, 1), (17, 2), (9, 3)])⟩), (179, ⟨0, 0, [], (.struct [(178, 0)])⟩), (180, ⟨0, 0, [], (.struct [(178, 0)])⟩), (182, ⟨1, 4, [(.int .u32 0)], (.int .u32)⟩), (183, ⟨1, 1, [(.int .u8 0)], (.int .u8)⟩), (184, ⟨1, 1, [(.int .u8 0)], (.int .u8)⟩), (186, ⟨1, 8, [(.pointer none)], .flat⟩), (187, ⟨1, 4, [(.int .i32 0)], (.int .i32)⟩), (188, ⟨1, 4, [(.int .i32 0)], (.int .i32)⟩)]
theorem ok2 : OkT Tryz.prog 2 ⟨1, 8, [(.int .i64 0)], (.int .i64)⟩ := ⟨by kernel_rfl, by kernel_rfl⟩
theorem ok3 : OkT Tryz.prog 3 ⟨1, 8, [(.int .i64 0)], (.int .i64)⟩ := ⟨by kernel_rfl, by kernel_rfl⟩
theorem ok4 : OkT Tryz.prog 4 ⟨1, 1, [(.bool false)], .bool⟩ := ⟨by kernel_rfl, by kernel_rfl⟩
theorem ok5 : OkT Tryz.prog 5 ⟨1, 1, [(.int .u8 0)], (.int .u8)⟩ := ⟨by kernel_rfl, by kernel_rfl⟩
theorem ok6 : OkT Tryz.prog 6 ⟨1, 1, [(.int .u8 0)], (.int .u8)⟩ := ⟨by kernel_rfl, by kernel_rfl⟩
theorem ok7 : OkT Tryz.prog 7 ⟨4, 24, [(.int .i64 0), (.int .i64 0), (.bool false), (.int .u8 0)], (.struct [(2, 0), (3, 1), (4, 2), (6, 3)])⟩ := ⟨by kernel_rfl, by kernel_rfl⟩
theorem ok8 : OkT Tryz.prog 8 ⟨4, 24, [(.int .i64 0), (.int .i64 0), (.bool false), (.int .u8 0)], (.struct [(2, 0), (3, 1), (4, 2), (6, 3)])⟩ := ⟨by kernel_rfl, by kernel_rfl⟩
theorem ok9 : OkT Tryz.prog 9 ⟨1, 16, [(.string .empty)], .str⟩ := ⟨by kernel_rfl, by kernel_rfl⟩
theorem ok10 : OkT Tryz.prog 10 ⟨1, 16, [(.string .empty)], .str⟩ := ⟨by kernel_rfl, by kernel_rfl⟩
theorem ok11 : OkT Tryz.prog 11 ⟨1, 16, [(.string .empty)], .str⟩ := ⟨by kernel_rfl, by kernel_rfl⟩
theorem ok12 : OkT Tryz.prog 12 ⟨1, 8, [(.int .u64 0)], (.int .u64)⟩ := ⟨by kernel_rfl, by kernel_rfl⟩
theorem ok13 : OkT Tryz.prog 13 ⟨2, 24, [(.string .empty), (.int .u64 0)], (.struct [(9, 0), (12, 1)])⟩ := ⟨by kernel_rfl, by kernel_rfl⟩
theorem ok14 : OkT Tryz.prog 14 ⟨2, 24, [(.string .empty), (.int .u64 0)], (.struct [(9, 0), (12, 1)])⟩ := ⟨by kernel_rfl, by kernel_rfl⟩
theorem ok15 : OkT Tryz.prog 15 ⟨1, 8, [(.pointer none)], .flat⟩ := ⟨by kernel_rfl, by kernel_rfl⟩
theorem ok16 : OkT Tryz.prog 16 ⟨1, 8, [(.pointer none)], .flat⟩ := ⟨by kernel_rfl, by kernel_rfl⟩
theorem ok17 : OkT Tryz.prog 17 ⟨1, 8, [(.pointer none)], .flat⟩ := ⟨by kernel_rfl, by kernel_rfl⟩
theorem ok18 : OkT Tryz.prog 18 ⟨1, 8, [(.pointer none)], (.struct [(17, 0)])⟩ := ⟨by kernel_rfl, by kernel_rfl⟩
theorem ok19 : OkT Tryz.prog 19 ⟨1, 8, [(.pointer none)], (.struct [(17, 0)])⟩ := ⟨by kernel_rfl, by kernel_rfl⟩
theorem ok21 : OkT Tryz.prog 21 ⟨1, 4, [(.int .i32 0)], (.int .i32)⟩ := ⟨by kernel_rfl, by kernel_rfl⟩
theorem ok22 : OkT Tryz.prog 22 ⟨1, 24, [(.slice none 0 0)], (.slice 102)⟩ := ⟨by kernel_rfl, by kernel_rfl⟩
theorem ok23 : OkT Tryz.prog 23 ⟨1, 24, [(.slice none 0 0)], (.struct [(22, 0)])⟩ := ⟨by kernel_rfl, by kernel_rfl⟩
theorem ok24 : OkT Tryz.prog 24 ⟨1, 24, [(.slice none 0 0)], (.struct [(22, 0)])⟩ := ⟨by kernel_rfl, by kernel_rfl⟩
theorem ok25 : OkT Tryz.prog 25 ⟨3, 40, [(.int .i64 0), (.int .i64 0), (.slice none 0 0)], (.struct [(3, 0), (3, 1), (24, 2)])⟩ := ⟨by kernel_rfl, by kernel_rfl⟩
theorem ok26 : OkT Tryz.prog 26 ⟨3, 40, [(.int .i64 0), (.int .i64 0), (.slice none 0 0)], (.struct [(3, 0), (3, 1), (24, 2)])⟩ := ⟨by kernel_rfl, by kernel_rfl⟩
theorem ok29 : OkT Tryz.prog 29 ⟨1, 24, [(.slice none 0 0)], (.slice 59)⟩ := ⟨by kernel_rfl, by kernel_rfl⟩
theorem ok30 : OkT Tryz.prog 30 ⟨1, 24, [(.slice none 0 0)], (.struct [(29, 0)])⟩ := ⟨by kernel_rfl, by kernel_rfl⟩
theorem ok31 : OkT Tryz.prog 31 ⟨1, 24, [(.slice none 0 0)], (.struct [(29, 0)])⟩ := ⟨by kernel_rfl, by kernel_rfl⟩
theorem ok32 : OkT Tryz.prog 32 ⟨3, 40, [(.int .i64 0), (.int .i64 0), (.slice none 0 0)], (.struct [(3, 0), (3, 1), (31, 2)])⟩ := ⟨by kernel_rfl, by kernel_rfl⟩
theorem ok33 : OkT Tryz.prog 33 ⟨3, 40, [(.int .i64 0), (.int .i64 0), (.slice none 0 0)], (.struct [(3, 0), (3, 1), (31, 2)])⟩ := ⟨by kernel_rfl, by kernel_rfl⟩
theorem ok39 : OkT Tryz.prog 39 ⟨1, 24, [(.slice none 0 0)], (.slice 26)⟩ := ⟨by kernel_rfl, by kernel_rfl⟩
theorem ok40 : OkT Tryz.prog 40 ⟨1, 24, [(.slice none 0 0)], (.slice 95)⟩ := ⟨by kernel_rfl, by kernel_rfl⟩
theorem ok41 : OkT Tryz.prog 41 ⟨2, 48, [(.slice none 0 0), (.slice none 0 0)], (.struct [(39, 0), (40, 1)])⟩ := ⟨by kernel_rfl, by kernel_rfl⟩
theorem ok42 : OkT Tryz.prog 42 ⟨2, 48, [(.slice none 0 0), (.slice none 0 0)], (.struct [(39, 0), (40, 1)])⟩ := ⟨by kernel_rfl, by kernel_rfl⟩
theorem ok45 : OkT Tryz.prog 45 ⟨1, 24, [(.slice none 0 0)], (.slice 33)⟩ := ⟨by kernel_rfl, by kernel_rfl⟩
theorem ok46 : OkT Tryz.prog 46 ⟨1, 24, [(.slice none 0 0)], (.slice 71)⟩ := ⟨by kernel_rfl, by kernel_rfl⟩
theorem ok47 : OkT Tryz.prog 47 ⟨2, 48, [(.slice none 0 0), (.slice none 0 0)], (.struct [(45, 0), (46, 1)])⟩ := ⟨by kernel_rfl, by kernel_rfl⟩
theorem ok48 : OkT Tryz.prog 48 ⟨2, 48, [(.slice none 0 0), (.slice none 0 0)], (.struct [(45, 0), (46, 1)])⟩ := ⟨by kernel_rfl, by kernel_rfl⟩
theorem ok57 : OkT Tryz.prog 57 ⟨1, 24, [(.slice none 0 0)], (.slice 61)⟩ := ⟨by kernel_rfl, by kernel_rfl⟩
theorem ok58 : OkT Tryz.prog 58 ⟨1, 24, [(.slice none 0 0)], (.struct [(57, 0)])⟩ := ⟨by kernel_rfl, by kernel_rfl⟩
theorem ok59 : OkT Tryz.prog 59 ⟨1, 24, [(.slice none 0 0)], (.struct [(57, 0)])⟩ := ⟨by kernel_rfl, by kernel_rfl⟩
theorem ok60 : OkT Tryz.prog 60 ⟨4, 40, [(.int .i64 0), (.int .i64 0), (.int .i64 0), (.string .empty)], (.struct [(3, 0), (3, 1), (3, 2), (9, 3)])⟩ := ⟨by kernel_rfl, by kernel_rfl⟩
theorem ok61 : OkT Tryz.prog 61 ⟨4, 40, [(.int .i64 0), (.int .i64 0), (.int .i64 0), (.string .empty)], (.struct [(3, 0), (3, 1), (3, 2), (9, 3)])⟩ := ⟨by kernel_rfl, by kernel_rfl⟩
theorem ok68 : OkT Tryz.prog 68 ⟨2, 32, [(.int .i64 0), (.slice none 0 0)], (.struct [(3, 0), (31, 1)])⟩ := ⟨by kernel_rfl, by kernel_rfl⟩
theorem ok69 : OkT Tryz.prog 69 ⟨2, 32, [(.int .i64 0), (.slice none 0 0)], (.struct [(3, 0), (31, 1)])⟩ := ⟨by kernel_rfl, by kernel_rfl⟩
theorem ok70 : OkT Tryz.prog 70 ⟨3, 40, [(.int .i64 0), (.int .i64 0), (.slice none 0 0)], (.struct [(3, 0), (69, 1)])⟩ := ⟨by kernel_rfl, by kernel_rfl⟩
theorem ok71 : OkT Tryz.prog 71 ⟨3, 40, [(.int .i64 0), (.int .i64 0), (.slice none 0 0)], (.struct [(3, 0), (69, 1)])⟩ := ⟨by kernel_rfl, by kernel_rfl⟩
theorem ok79 : OkT Tryz.prog 79 ⟨1, 8, [(.pointer none)], .flat⟩ := ⟨by kernel_rfl, by kernel_rfl⟩
theorem ok92 : OkT Tryz.prog 92 ⟨2, 32, [(.int .i64 0), (.slice none 0 0)], (.struct [(3, 0), (24, 1)])⟩ := ⟨by kernel_rfl, by kernel_rfl⟩
theorem ok93 : OkT Tryz.prog 93 ⟨2, 32, [(.int .i64 0), (.slice none 0 0)], (.struct [(3, 0), (24, 1)])⟩ := ⟨by kernel_rfl, by kernel_rfl⟩
theorem ok94 : OkT Tryz.prog 94 ⟨3, 40, [(.int .i64 0), (.int .i64 0), (.slice none 0 0)], (.struct [(3, 0), (93, 1)])⟩ := ⟨by kernel_rfl, by kernel_rfl⟩
theorem ok95 : OkT Tryz.prog 95 ⟨3, 40, [(.int .i64 0), (.int .i64 0), (.slice none 0 0)], (.struct [(3, 0), (93, 1)])⟩ := ⟨by kernel_rfl, by kernel_rfl⟩
theorem ok100 : OkT Tryz.prog 100 ⟨1, 24, [(.slice none 0 0)], (.slice 122)⟩ := ⟨by kernel_rfl, by kernel_rfl⟩
theorem ok101 : OkT Tryz.prog 101 ⟨1, 24, [(.slice none 0 0)], (.struct [(100, 0)])⟩ := ⟨by kernel_rfl, by kernel_rfl⟩
theorem ok102 : OkT Tryz.prog 102 ⟨1, 24, [(.slice none 0 0)], (.struct [(100, 0)])⟩ := ⟨by kernel_rfl, by kernel_rfl⟩
theorem ok114 : OkT Tryz.prog 114 ⟨1, 24, [(.slice none 0 0)], (.slice 9)⟩ := ⟨by kernel_rfl, by kernel_rfl⟩
theorem ok115 : OkT Tryz.prog 115 ⟨6, 80, [(.int .i64 0), (.int .i64 0), (.bool false), (.int .i64 0), (.slice none 0 0), (.slice none 0 0)], (.struct [(3, 0), (3, 1), (4, 2), (3, 3), (114, 4), (114, 5)])⟩ := ⟨by kernel_rfl, by kernel_rfl⟩
theorem ok116 : OkT Tryz.prog 116 ⟨6, 80, [(.int .i64 0), (.int .i64 0), (.bool false), (.int .i64 0), (.slice none 0 0), (.slice none 0 0)], (.struct [(3, 0), (3, 1), (4, 2), (3, 3), (114, 4), (114, 5)])⟩ := ⟨by kernel_rfl, by kernel_rfl⟩
theorem ok122 : OkT Tryz.prog 122 ⟨4, 40, [(.int .i64 0), (.int .i64 0), (.int .i64 0), (.string .empty)], (.struct [(3, 0), (3, 1), (3, 2), (9, 3)])⟩ := ⟨by kernel_rfl, by kernel_rfl⟩
theorem ok135 : OkT Tryz.prog 135 ⟨1, 24, [(.slice none 0 0)], (.slice 3)⟩ := ⟨by kernel_rfl, by kernel_rfl⟩
theorem ok142 : OkT Tryz.prog 142 ⟨1, 8, [(.pointer none)], .flat⟩ := ⟨by kernel_rfl, by kernel_rfl⟩
theorem ok158 : OkT Tryz.prog 158 ⟨1, 8, [(.pointer none)], .flat⟩ := ⟨by kernel_rfl, by kernel_rfl⟩
theorem ok159 : OkT Tryz.prog 159 ⟨1, 8, [(.int .u64 0)], (.int .u64)⟩ := ⟨by kernel_rfl, by kernel_rfl⟩
theorem ok169 : OkT Tryz.prog 169 ⟨2, 2, [(.int .u8 0), (.int .u8 0)], (.struct [(5, 0), (5, 1)])⟩ := ⟨by kernel_rfl, by kernel_rfl⟩
theorem ok170 : OkT Tryz.prog 170 ⟨2, 2, [(.int .u8 0), (.int .u8 0)], (.struct [(5, 0), (5, 1)])⟩ := ⟨by kernel_rfl, by kernel_rfl⟩
theorem ok176 : OkT Tryz.prog 176 ⟨4, 40, [(.pointer none), (.pointer none), (.pointer none), (.string .empty)], (.struct [(17, 0), (17, 1), (17, 2), (9, 3)])⟩ := ⟨by kernel_rfl, by kernel_rfl⟩
theorem ok177 : OkT Tryz.prog 177 ⟨4, 40, [(.pointer none), (.pointer none), (.pointer none), (.string .empty)], (.struct [(17, 0), (17, 1), (17, 2), (9, 3)])⟩ := ⟨by kernel_rfl, by kernel_rfl⟩
theorem ok179 : OkT Tryz.prog 179 ⟨0, 0, [], (.struct [(178, 0)])⟩ := ⟨by kernel_rfl, by kernel_rfl⟩
theorem ok180 : OkT Tryz.prog 180 ⟨0, 0, [], (.struct [(178, 0)])⟩ := ⟨by kernel_rfl, by kernel_rfl⟩
theorem ok182 : OkT Tryz.prog 182 ⟨1, 4, [(.int .u32 0)], (.int .u32)⟩ := ⟨by kernel_rfl, by kernel_rfl⟩
theorem ok183 : OkT Tryz.prog 183 ⟨1, 1, [(.int .u8 0)], (.int .u8)⟩ := ⟨by kernel_rfl, by kernel_rfl⟩
theorem ok184 : OkT Tryz.prog 184 ⟨1, 1, [(.int .u8 0)], (.int .u8)⟩ := ⟨by kernel_rfl, by kernel_rfl⟩
theorem ok186 : OkT Tryz.prog 186 ⟨1, 8, [(.pointer none)], .flat⟩ := ⟨by kernel_rfl, by kernel_rfl⟩
theorem ok187 : OkT Tryz.prog 187 ⟨1, 4, [(.int .i32 0)], (.int .i32)⟩ := ⟨by kernel_rfl, by kernel_rfl⟩
theorem ok188 : OkT Tryz.prog 188 ⟨1, 4, [(.int .i32 0)], (.int .i32)⟩ := ⟨by kernel_rfl, by kernel_rfl⟩
theorem tab_ok : TabOk Tryz.prog tab := tab_cons ok2 <| tab_cons ok3 <| tab_cons ok4 <| tab_cons ok5 <| tab_cons ok6 <| tab_cons ok7 <| tab_cons ok8 <| tab_cons ok9 <| tab_cons ok10 <| tab_cons ok11 <| tab_cons ok12 <| tab_cons ok13 <| tab_cons ok14 <| tab_cons ok15 <| tab_cons ok16 <| tab_cons ok17 <| tab_cons ok18 <| tab_cons ok19 <| tab_cons ok21 <| tab_cons ok22 <| tab_cons ok23 <| tab_cons ok24 <| tab_cons ok25 <| tab_cons ok26 <| tab_cons ok29 <| tab_cons ok30 <| tab_cons ok31 <| tab_cons ok32 <| tab_cons ok33 <| tab_cons ok39 <| tab_cons ok40 <| tab_cons ok41 <| tab_cons ok42 <| tab_cons ok45 <| tab_cons ok46 <| tab_cons ok47 <| tab_cons ok48 <| tab_cons ok57 <| tab_cons ok58 <| tab_cons ok59 <| tab_cons ok60 <| tab_cons ok61 <| tab_cons ok68 <| tab_cons ok69 <| tab_cons ok70 <| tab_cons ok71 <| tab_cons ok79 <| tab_cons ok92 <| tab_cons ok93 <| tab_cons ok94 <| tab_cons ok95 <| tab_cons ok100 <| tab_cons ok101 <| tab_cons ok102 <| tab_cons ok114 <| tab_cons ok115 <| tab_cons ok116 <| tab_cons ok122 <| tab_cons ok135 <| tab_cons ok142 <| tab_cons ok158 <| tab_cons ok159 <| tab_cons ok169 <| tab_cons ok170 <| tab_cons ok176 <| tab_cons ok177 <| tab_cons ok179 <| tab_cons ok180 <| tab_cons ok182 <| tab_cons ok183 <| tab_cons ok184 <| tab_cons ok186 <| tab_cons ok187 <| tab_cons ok188 <| tab_nil
@[go_sem] theorem look2 : look tab 2 = some ⟨1, 8, [(.int .i64 0)], (.int .i64)⟩ := rfl
@[go_sem] theorem look3 : look tab 3 = some ⟨1, 8, [(.int .i64 0)], (.int .i64)⟩ := rfl
@[go_sem] theorem look4 : look tab 4 = some ⟨1, 1, [(.bool false)], .bool⟩ := rfl
@[go_sem] theorem look5 : look tab 5 = some ⟨1, 1, [(.int .u8 0)], (.int .u8)⟩ := rfl
@[go_sem] theorem look6 : look tab 6 = some ⟨1, 1, [(.int .u8 0)], (.int .u8)⟩ := rfl
@[go_sem] theorem look7 : look tab 7 = some ⟨4, 24, [(.int .i64 0), (.int .i64 0), (.bool false), (.int .u8 0)], (.struct [(2, 0), (3, 1), (4, 2), (6, 3)])⟩ := rfl
@[go_sem] theorem look8 : look tab 8 = some ⟨4, 24, [(.int .i64 0), (.int .i64 0), (.bool false), (.int .u8 0)], (.struct [(2, 0), (3, 1), (4, 2), (6, 3)])⟩ := rfl
@[go_sem] theorem look9 : look tab 9 = some ⟨1, 16, [(.string .empty)], .str⟩ := rfl
@[go_sem] theorem look10 : look tab 10 = some ⟨1, 16, [(.string .empty)], .str⟩ := rfl
@[go_sem] theorem look11 : look tab 11 = some ⟨1, 16, [(.string .empty)], .str⟩ := rfl
@[go_sem] theorem look12 : look tab 12 = some ⟨1, 8, [(.int .u64 0)], (.int .u64)⟩ := rfl
@[go_sem] theorem look13 : look tab 13 = some ⟨2, 24, [(.string .empty), (.int .u64 0)], (.struct [(9, 0), (12, 1)])⟩ := rfl
@[go_sem] theorem look14 : look tab 14 = some ⟨2, 24, [(.string .empty), (.int .u64 0)], (.struct [(9, 0), (12, 1)])⟩ := rfl
@[go_sem] theorem look15 : look tab 15 = some ⟨1, 8, [(.pointer none)], .flat⟩ := rfl
@[go_sem] theorem look16 : look tab 16 = some ⟨1, 8, [(.pointer none)], .flat⟩ := rfl
@[go_sem] theorem look17 : look tab 17 = some ⟨1, 8, [(.pointer none)], .flat⟩ := rfl
@[go_sem] theorem look18 : look tab 18 = some ⟨1, 8, [(.pointer none)], (.struct [(17, 0)])⟩ := rfl
@[go_sem] theorem look19 : look tab 19 = some ⟨1, 8, [(.pointer none)], (.struct [(17, 0)])⟩ := rfl
@[go_sem] theorem look21 : look tab 21 = some ⟨1, 4, [(.int .i32 0)], (.int .i32)⟩ := rfl
@[go_sem] theorem look22 : look tab 22 = some ⟨1, 24, [(.slice none 0 0)], (.slice 102)⟩ := rfl
@[go_sem] theorem look23 : look tab 23 = some ⟨1, 24, [(.slice none 0 0)], (.struct [(22, 0)])⟩ := rfl
@[go_sem] theorem look24 : look tab 24 = some ⟨1, 24, [(.slice none 0 0)], (.struct [(22, 0)])⟩ := rfl
@[go_sem] theorem look25 : look tab 25 = some ⟨3, 40, [(.int .i64 0), (.int .i64 0), (.slice none 0 0)], (.struct [(3, 0), (3, 1), (24, 2)])⟩ := rfl
@[go_sem] theorem look26 : look tab 26 = some ⟨3, 40, [(.int .i64 0), (.int .i64 0), (.slice none 0 0)], (.struct [(3, 0), (3, 1), (24, 2)])⟩ := rfl
@[go_sem] theorem look29 : look tab 29 = some ⟨1, 24, [(.slice none 0 0)], (.slice 59)⟩ := rfl
@[go_sem] theorem look30 : look tab 30 = some ⟨1, 24, [(.slice none 0 0)], (.struct [(29, 0)])⟩ := rfl
@[go_sem] theorem look31 : look tab 31 = some ⟨1, 24, [(.slice none 0 0)], (.struct [(29, 0)])⟩ := rfl
@[go_sem] theorem look32 : look tab 32 = some ⟨3, 40, [(.int .i64 0), (.int .i64 0), (.slice none 0 0)], (.struct [(3, 0), (3, 1), (31, 2)])⟩ := rfl
@[go_sem] theorem look33 : look tab 33 = some ⟨3, 40, [(.int .i64 0), (.int .i64 0), (.slice none 0 0)], (.struct [(3, 0), (3, 1), (31, 2)])⟩ := rfl
@[go_sem] theorem look39 : look tab 39 = some ⟨1, 24, [(.slice none 0 0)], (.slice 26)⟩ := rfl
@[go_sem] theorem look40 : look tab 40 = some ⟨1, 24, [(.slice none 0 0)], (.slice 95)⟩ := rfl
@[go_sem] theorem look41 : look tab 41 = some ⟨2, 48, [(.slice none 0 0), (.slice none 0 0)], (.struct [(39, 0), (40, 1)])⟩ := rfl
@[go_sem] theorem look42 : look tab 42 = some ⟨2, 48, [(.slice none 0 0), (.slice none 0 0)], (.struct [(39, 0), (40, 1)])⟩ := rfl
@[go_sem] theorem look45 : look tab 45 = some ⟨1, 24, [(.slice none 0 0)], (.slice 33)⟩ := rfl
@[go_sem] theorem look46 : look tab 46 = some ⟨1, 24, [(.slice none 0 0)], (.slice 71)⟩ := rfl
@[go_sem] theorem look47 : look tab 47 = some ⟨2, 48, [(.slice none 0 0), (.slice none 0 0)], (.struct [(45, 0), (46, 1)])⟩ := rfl
@[go_sem] theorem look48 : look tab 48 = some ⟨2, 48, [(.slice none 0 0), (.slice none 0 0)], (.struct [(45, 0), (46, 1)])⟩ := rfl
@[go_sem] theorem look57 : look tab 57 = some ⟨1, 24, [(.slice none 0 0)], (.slice 61)⟩ := rfl
@[go_sem] theorem look58 : look tab 58 = some ⟨1, 24, [(.slice none 0 0)], (.struct [(57, 0)])⟩ := rfl
@[go_sem] theorem look59 : look tab 59 = some ⟨1, 24, [(.slice none 0 0)], (.struct [(57, 0)])⟩ := rfl
@[go_sem] theorem look60 : look tab 60 = some ⟨4, 40, [(.int .i64 0), (.int .i64 0), (.int .i64 0), (.string .empty)], (.struct [(3, 0), (3, 1), (3, 2), (9, 3)])⟩ := rfl
@[go_sem] theorem look61 : look tab 61 = some ⟨4, 40, [(.int .i64 0), (.int .i64 0), (.int .i64 0), (.string .empty)], (.struct [(3, 0), (3, 1), (3, 2), (9, 3)])⟩ := rfl
@[go_sem] theorem look68 : look tab 68 = some ⟨2, 32, [(.int .i64 0), (.slice none 0 0)], (.struct [(3, 0), (31, 1)])⟩ := rfl
@[go_sem] theorem look69 : look tab 69 = some ⟨2, 32, [(.int .i64 0), (.slice none 0 0)], (.struct [(3, 0), (31, 1)])⟩ := rfl
@[go_sem] theorem look70 : look tab 70 = some ⟨3, 40, [(.int .i64 0), (.int .i64 0), (.slice none 0 0)], (.struct [(3, 0), (69, 1)])⟩ := rfl
@[go_sem] theorem look71 : look tab 71 = some ⟨3, 40, [(.int .i64 0), (.int .i64 0), (.slice none 0 0)], (.struct [(3, 0), (69, 1)])⟩ := rfl
@[go_sem] theorem look79 : look tab 79 = some ⟨1, 8, [(.pointer none)], .flat⟩ := rfl
@[go_sem] theorem look92 : look tab 92 = some ⟨2, 32, [(.int .i64 0), (.slice none 0 0)], (.struct [(3, 0), (24, 1)])⟩ := rfl
@[go_sem] theorem look93 : look tab 93 = some ⟨2, 32, [(.int .i64 0), (.slice none 0 0)], (.struct [(3, 0), (24, 1)])⟩ := rfl
@[go_sem] theorem look94 : look tab 94 = some ⟨3, 40, [(.int .i64 0), (.int .i64 0), (.slice none 0 0)], (.struct [(3, 0), (93, 1)])⟩ := rfl
@[go_sem] theorem look95 : look tab 95 = some ⟨3, 40, [(.int .i64 0), (.int .i64 0), (.slice none 0 0)], (.struct [(3, 0), (93, 1)])⟩ := rfl
@[go_sem] theorem look100 : look tab 100 = some ⟨1, 24, [(.slice none 0 0)], (.slice 122)⟩ := rfl
@[go_sem] theorem look101 : look tab 101 = some ⟨1, 24, [(.slice none 0 0)], (.struct [(100, 0)])⟩ := rfl
@[go_sem] theorem look102 : look tab 102 = some ⟨1, 24, [(.slice none 0 0)], (.struct [(100, 0)])⟩ := rfl
@[go_sem] theorem look114 : look tab 114 = some ⟨1, 24, [(.slice none 0 0)], (.slice 9)⟩ := rfl
@[go_sem] theorem look115 : look tab 115 = some ⟨6, 80, [(.int .i64 0), (.int .i64 0), (.bool false), (.int .i64 0), (.slice none 0 0), (.slice none 0 0)], (.struct [(3, 0), (3, 1), (4, 2), (3, 3), (114, 4), (114, 5)])⟩ := rfl
@[go_sem] theorem look116 : look tab 116 = some ⟨6, 80, [(.int .i64 0), (.int .i64 0), (.bool false), (.int .i64 0), (.slice none 0 0), (.slice none 0 0)], (.struct [(3, 0), (3, 1), (4, 2), (3, 3), (114, 4), (114, 5)])⟩ := rfl
@[go_sem] theorem look122 : look tab 122 = some ⟨4, 40, [(.int .i64 0), (.int .i64 0), (.int .i64 0), (.string .empty)], (.struct [(3, 0), (3, 1), (3, 2), (9, 3)])⟩ := rfl
@[go_sem] theorem look135 : look tab 135 = some ⟨1, 24, [(.slice none 0 0)], (.slice 3)⟩ := rfl
@[go_sem] theorem look142 : look tab 142 = some ⟨1, 8, [(.pointer none)], .flat⟩ := rfl
@[go_sem] theorem look158 : look tab 158 = some ⟨1, 8, [(.pointer none)], .flat⟩ := rfl
@[go_sem] theorem look159 : look tab 159 = some ⟨1, 8, [(.int .u64 0)], (.int .u64)⟩ := rfl
@[go_sem] theorem look169 : look tab 169 = some ⟨2, 2, [(.int .u8 0), (.int .u8 0)], (.struct [(5, 0), (5, 1)])⟩ := rfl
@[go_sem] theorem look170 : look tab 170 = some ⟨2, 2, [(.int .u8 0), (.int .u8 0)], (.struct [(5, 0), (5, 1)])⟩ := rfl
@[go_sem] theorem look176 : look tab 176 = some ⟨4, 40, [(.pointer none), (.pointer none), (.pointer none), (.string .empty)], (.struct [(17, 0), (17, 1), (17, 2), (9, 3)])⟩ := rfl
@[go_sem] theorem look177 : look tab 177 = some ⟨4, 40, [(.pointer none), (.pointer none), (.pointer none), (.string .empty)], (.struct [(17, 0), (17, 1), (17, 2), (9, 3)])⟩ := rfl
@[go_sem] theorem look179 : look tab 179 = some ⟨0, 0, [], (.struct [(178, 0)])⟩ := rfl
@[go_sem] theorem look180 : look tab 180 = some ⟨0, 0, [], (.struct [(178, 0)])⟩ := rfl
@[go_sem] theorem look182 : look tab 182 = some ⟨1, 4, [(.int .u32 0)], (.int .u32)⟩ := rfl
@[go_sem] theorem look183 : look tab 183 = some ⟨1, 1, [(.int .u8 0)], (.int .u8)⟩ := rfl
@[go_sem] theorem look184 : look tab 184 = some ⟨1, 1, [(.int .u8 0)], (.int .u8)⟩ := rfl
@[go_sem] theorem look186 : look tab 186 = some ⟨1, 8, [(.pointer none)], .flat⟩ := rfl
@[go_sem] theorem look187 : look tab 187 = some ⟨1, 4, [(.int .i32 0)], (.int .i32)⟩ := rfl
@[go_sem] theorem look188 : look tab 188 = some ⟨1, 4, [(.int .i32 0)], (.int .i32)⟩ := rfl
theorem mixed : Tryz.prog.follows .mixedOrders = true := by kernel_rfl
end Go.TL.YtmooampfjclmiaaGreatDoor
