import Derived.Test.YtmmhgioeoikgbaaTlAttr
import Derived.Test.YtmmhgioeoikgbaaProg
import Derived.KernelRfl
set_option linter.unusedSimpArgs false
set_option linter.unusedVariables false
namespace Go.TL.Ytmmhgioeoikgbaa
open Go Go.Proofs
theorem tab_cons {P : Program} {t : Nat} {e : TE} {r : Tab} (h : OkT P t e) (k : TabOk P r) : TabOk P ((t, e) :: r) := fun p hp => by
  rcases List.mem_cons.1 hp with rfl | hp
  · exact h
  · exact k p hp
theorem tab_nil {P : Program} : TabOk P [] := fun p hp => by cases hp
def tab : Tab := [(2, ⟨1, 8, [(.int .i64 0)], (.int .i64)⟩), (3, ⟨1, 8, [(.int .i64 0)], (.int .i64)⟩), (4, ⟨1, 1, [(.bool false)], .bool⟩), (5, ⟨1, 1, [(.int .u8 0)], (.int .u8)⟩), (6, ⟨1, 1, [(.int .u8 0)], (.int .u8)⟩), (7, ⟨4, 24, [(.int .i64 0), (.int .i64 0), (.bool false), (.int .u8 0)], (.struct [(2, 0), (3, 1), (4, 2), (6, 3)])⟩), (8, ⟨4, 24, [(.int .i64 0), (.int .i64 0), (.bool false), (.int .u8 0)], (.struct [(2, 0), (3, 1), (4, 2), (6, 3)])⟩), (9, ⟨1, 16, [(.string .empty)], .str⟩), (10, ⟨1, 16, [(.string .empty)], .str⟩), (11, ⟨1, 16, [(.string .empty)], .str⟩), (12, ⟨1, 8, [(.int .u64 0)], (.int .u64)⟩), (13, ⟨2, 24, [(.string .empty), (.int .u64 0)], (.struct [(9, 0), (12, 1)])⟩), (14, ⟨2, 24, [(.string .empty), (.int .u64 0)], (.struct [(9, 0), (12, 1)])⟩), (15, ⟨1, 8, [(.pointer none)], .flat⟩), (16, ⟨1, 8, [(.pointer none)], .flat⟩), (17, ⟨1, 8, [(.pointer none)], .flat⟩), (18, ⟨1, 8, [(.pointer none)], (.struct [(17, 0)])⟩), (19, ⟨1, 8, [(.pointer none)], (.struct [(17, 0)])⟩), (21, ⟨1, 4, [(.int .i32 0)], (.int .i32)⟩), (29, ⟨1, 24, [(.slice none 0 0)], (.slice 5)⟩), (33, ⟨5, 40, [(.int .i64 0), (.int .i64 0), (.int .i64 0), (.int .i64 0), (.int .i64 0)], (.struct [(3, 0), (3, 1), (3, 2), (3, 3), (3, 4)])⟩), (34, ⟨5, 40, [(.int .i64 0), (.int .i64 0), (.int .i64 0), (.int .i64 0), (.int .i64 0)], (.struct [(3, 0), (3, 1), (3, 2), (3, 3), (3, 4)])⟩), (35, ⟨2, 16, [(.int .i64 0), (.bool false)], (.struct [(3, 0), (4, 1)])⟩), (36, ⟨2, 16, [(.int .i64 0), (.bool false)], (.struct [(3, 0), (4, 1)])⟩), (37, ⟨5, 40, [(.int .i64 0), (.int .i64 0), (.int .i64 0), (.int .i64 0), (.int .i64 0)], (.struct [(3, 0), (3, 1), (3, 2), (3, 3), (3, 4)])⟩), (41, ⟨2, 16, [(.int .i64 0), (.bool false)], (.struct [(3, 0), (4, 1)])⟩), (45, ⟨1, 24, [(.slice none 0 0)], (.slice 9)⟩), (46, ⟨1, 24, [(.slice none 0 0)], (.slice 117)⟩), (47, ⟨5, 88, [(.int .i64 0), (.slice none 0 0), (.int .i64 0), (.slice none 0 0), (.slice none 0 0)], (.struct [(3, 0), (45, 1), (3, 2), (45, 3), (46, 4)])⟩), (48, ⟨5, 88, [(.int .i64 0), (.slice none 0 0), (.int .i64 0), (.slice none 0 0), (.slice none 0 0)], (.struct [(3, 0), (45, 1), (3, 2), (45, 3), (46, 4)])⟩), (53, ⟨1, 24, [(.slice none 0 0)], (.slice 152)⟩), (54, ⟨1, 24, [(.slice none 0 0)], (.struct [(53, 0)])⟩), (55, ⟨1, 24, [(.slice none 0 0)], (.struct [(53, 0)])⟩), (56, ⟨3, 40, [(.int .i64 0), (.int .i64 0), (.slice none 0 0)], (.struct [(3, 0), (3, 1), (55, 2)])⟩), (57, ⟨3, 40, [(.int .i64 0), (.int .i64 0), (.slice none 0 0)], (.struct [(3, 0), (3, 1), (55, 2)])⟩), (62, ⟨1, 24, [(.slice none 0 0)], (.slice 36)⟩), (64, ⟨1, 24, [(.slice none 0 0)], (.slice 4)⟩), (67, ⟨1, 24, [(.slice none 0 0)], (.slice 41)⟩), (74, ⟨1, 24, [(.slice none 0 0)], (.slice 138)⟩), (75, ⟨5, 88, [(.int .i64 0), (.slice none 0 0), (.int .i64 0), (.slice none 0 0), (.slice none 0 0)], (.struct [(3, 0), (45, 1), (3, 2), (45, 3), (74, 4)])⟩), (76, ⟨5, 88, [(.int .i64 0), (.slice none 0 0), (.int .i64 0), (.slice none 0 0), (.slice none 0 0)], (.struct [(3, 0), (45, 1), (3, 2), (45, 3), (74, 4)])⟩), (88, ⟨1, 24, [(.slice none 0 0)], (.slice 57)⟩), (89, ⟨1, 24, [(.slice none 0 0)], (.slice 147)⟩), (90, ⟨2, 48, [(.slice none 0 0), (.slice none 0 0)], (.struct [(88, 0), (89, 1)])⟩), (91, ⟨2, 48, [(.slice none 0 0), (.slice none 0 0)], (.struct [(88, 0), (89, 1)])⟩), (98, ⟨1, 8, [(.pointer none)], .flat⟩), (99, ⟨1, 8, [(.int .u64 0)], (.int .u64)⟩), (100, ⟨3, 40, [(.slice none 0 0), (.int .i64 0), (.int .u64 0)], (.struct [(29, 0), (3, 1), (99, 2)])⟩), (101, ⟨3, 40, [(.slice none 0 0), (.int .i64 0), (.int .u64 0)], (.struct [(29, 0), (3, 1), (99, 2)])⟩), (116, ⟨3, 32, [(.bool false), (.int .i64 0), (.string .empty)], (.struct [(4, 0), (3, 1), (9, 2)])⟩), (117, ⟨3, 32, [(.bool false), (.int .i64 0), (.string .empty)], (.struct [(4, 0), (3, 1), (9, 2)])⟩), (131, ⟨1, 24, [(.slice none 0 0)], (.slice 3)⟩), (132, ⟨1, 8, [(.pointer none)], .flat⟩), (138, ⟨3, 32, [(.bool false), (.int .i64 0), (.string .empty)], (.struct [(4, 0), (3, 1), (9, 2)])⟩), (142, ⟨1, 8, [(.pointer none)], .flat⟩), (144, ⟨2, 32, [(.int .i64 0), (.slice none 0 0)], (.struct [(3, 0), (55, 1)])⟩), (145, ⟨2, 32, [(.int .i64 0), (.slice none 0 0)], (.struct [(3, 0), (55, 1)])⟩), (146, ⟨3, 40, [(.int .i64 0), (.int .i64 0), (.slice none 0 0)], (.struct [(3, 0), (145, 1)])⟩), (147, ⟨3, 40, [(.int .i64 0), (.int .i64 0), (.slice none 0 0)], (.struct [(3, 0), (145, 1)])⟩), (148, ⟨1, 8, [(.int .u64 0)], (.int .u64)⟩), (150, ⟨1, 24, [(.slice none 0 0)], (.slice 157)⟩), (151, ⟨1, 24, [(.slice none 0 0)], (.struct [(150, 0)])⟩), (152, ⟨1, 24, [(.slice none 0 0)], (.struct [(150, 0)])⟩), (156, ⟨4, 40, [(.int .i64 0), (.int .i64 0), (.int .i64 0), (.string .empty)], (.struct [(3, 0), (3, 1), (3, 2), (9, 3)])⟩), (157, ⟨4, 40, [(.int .i64 0), (.int .i64 0), (.int .i64 0), (.string .empty)], (.struct [(3, 0), (3, 1), (3, 2), (9, 3)])⟩), (160, ⟨4, 40, [(.pointer none), (.pointer none), (.pointer none), (.string .empty)], (.struct [(17, 0), (17, 1), (17, 2), (9, 3)])⟩), (161, ⟨4, 40, [(.pointer none), (.pointer none), (.pointer none), (.string .empty)], (.struct [(17, 0), (17, 1), (17, 2), (9, 3)])⟩), (163, ⟨0, 0, [], (.struct [(162, 0)])⟩), (164, ⟨0, 0, [], (.struct [(162, 0)])⟩), (165, ⟨1, 4, [(.int .u32 0)], (.int .u32)⟩), (166, ⟨1, 1, [(.int .u8 0)], (.int .u8)⟩), (167, ⟨1, 1, [(.int .u8 0)], (.int .u8)⟩), (169, ⟨1, 8, [(.pointer none)], .flat⟩), (170, ⟨1, 4, [(.int .i32 0)], (.int .i32)⟩), (171, ⟨1, 4, [(.int .i32 0)], (.int .i32)⟩)]
theorem ok2 : OkT Try.prog 2 ⟨1, 8, [(.int .i64 0)], (.int .i64)⟩ := ⟨by kernel_rfl, by kernel_rfl⟩
theorem ok3 : OkT Try.prog 3 ⟨1, 8, [(.int .i64 0)], (.int .i64)⟩ := ⟨by kernel_rfl, by kernel_rfl⟩
theorem ok4 : OkT Try.prog 4 ⟨1, 1, [(.bool false)], .bool⟩ := ⟨by kernel_rfl, by kernel_rfl⟩
theorem ok5 : OkT Try.prog 5 ⟨1, 1, [(.int .u8 0)], (.int .u8)⟩ := ⟨by kernel_rfl, by kernel_rfl⟩
theorem ok6 : OkT Try.prog 6 ⟨1, 1, [(.int .u8 0)], (.int .u8)⟩ := ⟨by kernel_rfl, by kernel_rfl⟩
theorem ok7 : OkT Try.prog 7 ⟨4, 24, [(.int .i64 0), (.int .i64 0), (.bool false), (.int .u8 0)], (.struct [(2, 0), (3, 1), (4, 2), (6, 3)])⟩ := ⟨by kernel_rfl, by kernel_rfl⟩
theorem ok8 : OkT Try.prog 8 ⟨4, 24, [(.int .i64 0), (.int .i64 0), (.bool false), (.int .u8 0)], (.struct [(2, 0), (3, 1), (4, 2), (6, 3)])⟩ := ⟨by kernel_rfl, by kernel_rfl⟩
theorem ok9 : OkT Try.prog 9 ⟨1, 16, [(.string .empty)], .str⟩ := ⟨by kernel_rfl, by kernel_rfl⟩
theorem ok10 : OkT Try.prog 10 ⟨1, 16, [(.string .empty)], .str⟩ := ⟨by kernel_rfl, by kernel_rfl⟩
theorem ok11 : OkT Try.prog 11 ⟨1, 16, [(.string .empty)], .str⟩ := ⟨by kernel_rfl, by kernel_rfl⟩
theorem ok12 : OkT Try.prog 12 ⟨1, 8, [(.int .u64 0)], (.int .u64)⟩ := ⟨by kernel_rfl, by kernel_rfl⟩
theorem ok13 : OkT Try.prog 13 ⟨2, 24, [(.string .empty), (.int .u64 0)], (.struct [(9, 0), (12, 1)])⟩ := ⟨by kernel_rfl, by kernel_rfl⟩
theorem ok14 : OkT Try.prog 14 ⟨2, 24, [(.string .empty), (.int .u64 0)], (.struct [(9, 0), (12, 1)])⟩ := ⟨by kernel_rfl, by kernel_rfl⟩
theorem ok15 : OkT Try.prog 15 ⟨1, 8, [(.pointer none)], .flat⟩ := ⟨by kernel_rfl, by kernel_rfl⟩
theorem ok16 : OkT Try.prog 16 ⟨1, 8, [(.pointer none)], .flat⟩ := ⟨by kernel_rfl, by kernel_rfl⟩
theorem ok17 : OkT Try.prog 17 ⟨1, 8, [(.pointer none)], .flat⟩ := ⟨by kernel_rfl, by kernel_rfl⟩
theorem ok18 : OkT Try.prog 18 ⟨1, 8, [(.pointer none)], (.struct [(17, 0)])⟩ := ⟨by kernel_rfl, by kernel_rfl⟩
theorem ok19 : OkT Try.prog 19 ⟨1, 8, [(.pointer none)], (.struct [(17, 0)])⟩ := ⟨by kernel_rfl, by kernel_rfl⟩
theorem ok21 : OkT Try.prog 21 ⟨1, 4, [(.int .i32 0)], (.int .i32)⟩ := ⟨by kernel_rfl, by kernel_rfl⟩
theorem ok29 : OkT Try.prog 29 ⟨1, 24, [(.slice none 0 0)], (.slice 5)⟩ := ⟨by kernel_rfl, by kernel_rfl⟩
theorem ok33 : OkT Try.prog 33 ⟨5, 40, [(.int .i64 0), (.int .i64 0), (.int .i64 0), (.int .i64 0), (.int .i64 0)], (.struct [(3, 0), (3, 1), (3, 2), (3, 3), (3, 4)])⟩ := ⟨by kernel_rfl, by kernel_rfl⟩
theorem ok34 : OkT Try.prog 34 ⟨5, 40, [(.int .i64 0), (.int .i64 0), (.int .i64 0), (.int .i64 0), (.int .i64 0)], (.struct [(3, 0), (3, 1), (3, 2), (3, 3), (3, 4)])⟩ := ⟨by kernel_rfl, by kernel_rfl⟩
theorem ok35 : OkT Try.prog 35 ⟨2, 16, [(.int .i64 0), (.bool false)], (.struct [(3, 0), (4, 1)])⟩ := ⟨by kernel_rfl, by kernel_rfl⟩
theorem ok36 : OkT Try.prog 36 ⟨2, 16, [(.int .i64 0), (.bool false)], (.struct [(3, 0), (4, 1)])⟩ := ⟨by kernel_rfl, by kernel_rfl⟩
theorem ok37 : OkT Try.prog 37 ⟨5, 40, [(.int .i64 0), (.int .i64 0), (.int .i64 0), (.int .i64 0), (.int .i64 0)], (.struct [(3, 0), (3, 1), (3, 2), (3, 3), (3, 4)])⟩ := ⟨by kernel_rfl, by kernel_rfl⟩
theorem ok41 : OkT Try.prog 41 ⟨2, 16, [(.int .i64 0), (.bool false)], (.struct [(3, 0), (4, 1)])⟩ := ⟨by kernel_rfl, by kernel_rfl⟩
theorem ok45 : OkT Try.prog 45 ⟨1, 24, [(.slice none 0 0)], (.slice 9)⟩ := ⟨by kernel_rfl, by kernel_rfl⟩
theorem ok46 : OkT Try.prog 46 ⟨1, 24, [(.slice none 0 0)], (.slice 117)⟩ := ⟨by kernel_rfl, by kernel_rfl⟩
theorem ok47 : OkT Try.prog 47 ⟨5, 88, [(.int .i64 0), (.slice none 0 0), (.int .i64 0), (.slice none 0 0), (.slice none 0 0)], (.struct [(3, 0), (45, 1), (3, 2), (45, 3), (46, 4)])⟩ := ⟨by kernel_rfl, by kernel_rfl⟩
theorem ok48 : OkT Try.prog 48 ⟨5, 88, [(.int .i64 0), (.slice none 0 0), (.int .i64 0), (.slice none 0 0), (.slice none 0 0)], (.struct [(3, 0), (45, 1), (3, 2), (45, 3), (46, 4)])⟩ := ⟨by kernel_rfl, by kernel_rfl⟩
theorem ok53 : OkT Try.prog 53 ⟨1, 24, [(.slice none 0 0)], (.slice 152)⟩ := ⟨by kernel_rfl, by kernel_rfl⟩
theorem ok54 : OkT Try.prog 54 ⟨1, 24, [(.slice none 0 0)], (.struct [(53, 0)])⟩ := ⟨by kernel_rfl, by kernel_rfl⟩
theorem ok55 : OkT Try.prog 55 ⟨1, 24, [(.slice none 0 0)], (.struct [(53, 0)])⟩ := ⟨by kernel_rfl, by kernel_rfl⟩
theorem ok56 : OkT Try.prog 56 ⟨3, 40, [(.int .i64 0), (.int .i64 0), (.slice none 0 0)], (.struct [(3, 0), (3, 1), (55, 2)])⟩ := ⟨by kernel_rfl, by kernel_rfl⟩
theorem ok57 : OkT Try.prog 57 ⟨3, 40, [(.int .i64 0), (.int .i64 0), (.slice none 0 0)], (.struct [(3, 0), (3, 1), (55, 2)])⟩ := ⟨by kernel_rfl, by kernel_rfl⟩
theorem ok62 : OkT Try.prog 62 ⟨1, 24, [(.slice none 0 0)], (.slice 36)⟩ := ⟨by kernel_rfl, by kernel_rfl⟩
theorem ok64 : OkT Try.prog 64 ⟨1, 24, [(.slice none 0 0)], (.slice 4)⟩ := ⟨by kernel_rfl, by kernel_rfl⟩
theorem ok67 : OkT Try.prog 67 ⟨1, 24, [(.slice none 0 0)], (.slice 41)⟩ := ⟨by kernel_rfl, by kernel_rfl⟩
theorem ok74 : OkT Try.prog 74 ⟨1, 24, [(.slice none 0 0)], (.slice 138)⟩ := ⟨by kernel_rfl, by kernel_rfl⟩
theorem ok75 : OkT Try.prog 75 ⟨5, 88, [(.int .i64 0), (.slice none 0 0), (.int .i64 0), (.slice none 0 0), (.slice none 0 0)], (.struct [(3, 0), (45, 1), (3, 2), (45, 3), (74, 4)])⟩ := ⟨by kernel_rfl, by kernel_rfl⟩
theorem ok76 : OkT Try.prog 76 ⟨5, 88, [(.int .i64 0), (.slice none 0 0), (.int .i64 0), (.slice none 0 0), (.slice none 0 0)], (.struct [(3, 0), (45, 1), (3, 2), (45, 3), (74, 4)])⟩ := ⟨by kernel_rfl, by kernel_rfl⟩
theorem ok88 : OkT Try.prog 88 ⟨1, 24, [(.slice none 0 0)], (.slice 57)⟩ := ⟨by kernel_rfl, by kernel_rfl⟩
theorem ok89 : OkT Try.prog 89 ⟨1, 24, [(.slice none 0 0)], (.slice 147)⟩ := ⟨by kernel_rfl, by kernel_rfl⟩
theorem ok90 : OkT Try.prog 90 ⟨2, 48, [(.slice none 0 0), (.slice none 0 0)], (.struct [(88, 0), (89, 1)])⟩ := ⟨by kernel_rfl, by kernel_rfl⟩
theorem ok91 : OkT Try.prog 91 ⟨2, 48, [(.slice none 0 0), (.slice none 0 0)], (.struct [(88, 0), (89, 1)])⟩ := ⟨by kernel_rfl, by kernel_rfl⟩
theorem ok98 : OkT Try.prog 98 ⟨1, 8, [(.pointer none)], .flat⟩ := ⟨by kernel_rfl, by kernel_rfl⟩
theorem ok99 : OkT Try.prog 99 ⟨1, 8, [(.int .u64 0)], (.int .u64)⟩ := ⟨by kernel_rfl, by kernel_rfl⟩
theorem ok100 : OkT Try.prog 100 ⟨3, 40, [(.slice none 0 0), (.int .i64 0), (.int .u64 0)], (.struct [(29, 0), (3, 1), (99, 2)])⟩ := ⟨by kernel_rfl, by kernel_rfl⟩
theorem ok101 : OkT Try.prog 101 ⟨3, 40, [(.slice none 0 0), (.int .i64 0), (.int .u64 0)], (.struct [(29, 0), (3, 1), (99, 2)])⟩ := ⟨by kernel_rfl, by kernel_rfl⟩
theorem ok116 : OkT Try.prog 116 ⟨3, 32, [(.bool false), (.int .i64 0), (.string .empty)], (.struct [(4, 0), (3, 1), (9, 2)])⟩ := ⟨by kernel_rfl, by kernel_rfl⟩
theorem ok117 : OkT Try.prog 117 ⟨3, 32, [(.bool false), (.int .i64 0), (.string .empty)], (.struct [(4, 0), (3, 1), (9, 2)])⟩ := ⟨by kernel_rfl, by kernel_rfl⟩
theorem ok131 : OkT Try.prog 131 ⟨1, 24, [(.slice none 0 0)], (.slice 3)⟩ := ⟨by kernel_rfl, by kernel_rfl⟩
theorem ok132 : OkT Try.prog 132 ⟨1, 8, [(.pointer none)], .flat⟩ := ⟨by kernel_rfl, by kernel_rfl⟩
theorem ok138 : OkT Try.prog 138 ⟨3, 32, [(.bool false), (.int .i64 0), (.string .empty)], (.struct [(4, 0), (3, 1), (9, 2)])⟩ := ⟨by kernel_rfl, by kernel_rfl⟩
theorem ok142 : OkT Try.prog 142 ⟨1, 8, [(.pointer none)], .flat⟩ := ⟨by kernel_rfl, by kernel_rfl⟩
theorem ok144 : OkT Try.prog 144 ⟨2, 32, [(.int .i64 0), (.slice none 0 0)], (.struct [(3, 0), (55, 1)])⟩ := ⟨by kernel_rfl, by kernel_rfl⟩
theorem ok145 : OkT Try.prog 145 ⟨2, 32, [(.int .i64 0), (.slice none 0 0)], (.struct [(3, 0), (55, 1)])⟩ := ⟨by kernel_rfl, by kernel_rfl⟩
theorem ok146 : OkT Try.prog 146 ⟨3, 40, [(.int .i64 0), (.int .i64 0), (.slice none 0 0)], (.struct [(3, 0), (145, 1)])⟩ := ⟨by kernel_rfl, by kernel_rfl⟩
theorem ok147 : OkT Try.prog 147 ⟨3, 40, [(.int .i64 0), (.int .i64 0), (.slice none 0 0)], (.struct [(3, 0), (145, 1)])⟩ := ⟨by kernel_rfl, by kernel_rfl⟩
theorem ok148 : OkT Try.prog 148 ⟨1, 8, [(.int .u64 0)], (.int .u64)⟩ := ⟨by kernel_rfl, by kernel_rfl⟩
theorem ok150 : OkT Try.prog 150 ⟨1, 24, [(.slice none 0 0)], (.slice 157)⟩ := ⟨by kernel_rfl, by kernel_rfl⟩
theorem ok151 : OkT Try.prog 151 ⟨1, 24, [(.slice none 0 0)], (.struct [(150, 0)])⟩ := ⟨by kernel_rfl, by kernel_rfl⟩
theorem ok152 : OkT Try.prog 152 ⟨1, 24, [(.slice none 0 0)], (.struct [(150, 0)])⟩ := ⟨by kernel_rfl, by kernel_rfl⟩
theorem ok156 : OkT Try.prog 156 ⟨4, 40, [(.int .i64 0), (.int .i64 0), (.int .i64 0), (.string .empty)], (.struct [(3, 0), (3, 1), (3, 2), (9, 3)])⟩ := ⟨by kernel_rfl, by kernel_rfl⟩
theorem ok157 : OkT Try.prog 157 ⟨4, 40, [(.int .i64 0), (.int .i64 0), (.int .i64 0), (.string .empty)], (.struct [(3, 0), (3, 1), (3, 2), (9, 3)])⟩ := ⟨by kernel_rfl, by kernel_rfl⟩
theorem ok160 : OkT Try.prog 160 ⟨4, 40, [(.pointer none), (.pointer none), (.pointer none), (.string .empty)], (.struct [(17, 0), (17, 1), (17, 2), (9, 3)])⟩ := ⟨by kernel_rfl, by kernel_rfl⟩
theorem ok161 : OkT Try.prog 161 ⟨4, 40, [(.pointer none), (.pointer none), (.pointer none), (.string .empty)], (.struct [(17, 0), (17, 1), (17, 2), (9, 3)])⟩ := ⟨by kernel_rfl, by kernel_rfl⟩
theorem ok163 : OkT Try.prog 163 ⟨0, 0, [], (.struct [(162, 0)])⟩ := ⟨by kernel_rfl, by kernel_rfl⟩
theorem ok164 : OkT Try.prog 164 ⟨0, 0, [], (.struct [(162, 0)])⟩ := ⟨by kernel_rfl, by kernel_rfl⟩
theorem ok165 : OkT Try.prog 165 ⟨1, 4, [(.int .u32 0)], (.int .u32)⟩ := ⟨by kernel_rfl, by kernel_rfl⟩
theorem ok166 : OkT Try.prog 166 ⟨1, 1, [(.int .u8 0)], (.int .u8)⟩ := ⟨by kernel_rfl, by kernel_rfl⟩
theorem ok167 : OkT Try.prog 167 ⟨1, 1, [(.int .u8 0)], (.int .u8)⟩ := ⟨by kernel_rfl, by kernel_rfl⟩
theorem ok169 : OkT Try.prog 169 ⟨1, 8, [(.pointer none)], .flat⟩ := ⟨by kernel_rfl, by kernel_rfl⟩
theorem ok170 : OkT Try.prog 170 ⟨1, 4, [(.int .i32 0)], (.int .i32)⟩ := ⟨by kernel_rfl, by kernel_rfl⟩
theorem ok171 : OkT Try.prog 171 ⟨1, 4, [(.int .i32 0)], (.int .i32)⟩ := ⟨by kernel_rfl, by kernel_rfl⟩
theorem tab_ok : TabOk Try.prog tab := tab_cons ok2 <| tab_cons ok3 <| tab_cons ok4 <| tab_cons ok5 <| tab_cons ok6 <| tab_cons ok7 <| tab_cons ok8 <| tab_cons ok9 <| tab_cons ok10 <| tab_cons ok11 <| tab_cons ok12 <| tab_cons ok13 <| tab_cons ok14 <| tab_cons ok15 <| tab_cons ok16 <| tab_cons ok17 <| tab_cons ok18 <| tab_cons ok19 <| tab_cons ok21 <| tab_cons ok29 <| tab_cons ok33 <| tab_cons ok34 <| tab_cons ok35 <| tab_cons ok36 <| tab_cons ok37 <| tab_cons ok41 <| tab_cons ok45 <| tab_cons ok46 <| tab_cons ok47 <| tab_cons ok48 <| tab_cons ok53 <| tab_cons ok54 <| tab_cons ok55 <| tab_cons ok56 <| tab_cons ok57 <| tab_cons ok62 <| tab_cons ok64 <| tab_cons ok67 <| tab_cons ok74 <| tab_cons ok75 <| tab_cons ok76 <| tab_cons ok88 <| tab_cons ok89 <| tab_cons ok90 <| tab_cons ok91 <| tab_cons ok98 <| tab_cons ok99 <| tab_cons ok100 <| tab_cons ok101 <| tab_cons ok116 <| tab_cons ok117 <| tab_cons ok131 <| tab_cons ok132 <| tab_cons ok138 <| tab_cons ok142 <| tab_cons ok144 <| tab_cons ok145 <| tab_cons ok146 <| tab_cons ok147 <| tab_cons ok148 <| tab_cons ok150 <| tab_cons ok151 <| tab_cons ok152 <| tab_cons ok156 <| tab_cons ok157 <| tab_cons ok160 <| tab_cons ok161 <| tab_cons ok163 <| tab_cons ok164 <| tab_cons ok165 <| tab_cons ok166 <| tab_cons ok167 <| tab_cons ok169 <| tab_cons ok170 <| tab_cons ok171 <| tab_nil
@[go_sem] theorem look2 : look tab 2 = some ⟨1, 8, [(.int .i64 0)], (.int .i64)⟩ := rfl
@[go_sem] theorem look3 : look tab 3 = some ⟨1, 8, [(.int .i64 0)], (.int .i64)⟩ := rfl
@[go_sem] theorem look4 : look tab 4 = some ⟨1, 1, [(.bool false)], .bool⟩ := rfl
@[go_sem] theorem look5 : look tab 5 = some ⟨1, 1, [(.int .u8 0)], (.int .u8)⟩ := rfl
@[go_sem] theorem look6 : look tab 6 = some ⟨1, 1, [(.int .u8 0)], (.int .u8)⟩ := rfl
@[go_sem] theorem look7 : look tab 7 = some ⟨4, 24, [(.int .i64 0), (.int .i64 0), (.bool false), (.int .u8 0)], (.struct [(2, 0), (3, 1), (4, 2), (6, 3)])⟩ := rfl
@[go_sem] theorem look8 : look tab 8 = some ⟨4, 24, [(.int .i64 0), (.int .i64 0), (.bool false), (.int .u8 0)], (.struct [(2, 0), (3, 1), (4, 2), (6, 3)])⟩ := rfl
@[go_sem] theorem look9 : look tab 9 = some ⟨1, 16, [(.string .empty)], .str⟩ := rfl
@[go_sem] theorem look10 : look tab 10 = some ⟨1, 16, [(.string .empty)], .str⟩ := rfl
@[go_sem] theorem look11 : look tab 11 = some ⟨1, 16, [(.string .empty)], .str⟩ := rfl
@[go_sem] theorem look12 : look tab 12 = some ⟨1, 8, [(.int .u64 0)], (.int .u64)⟩ := rfl
@[go_sem] theorem look13 : look tab 13 = some ⟨2, 24, [(.string .empty), (.int .u64 0)], (.struct [(9, 0), (12, 1)])⟩ := rfl
@[go_sem] theorem look14 : look tab 14 = some ⟨2, 24, [(.string .empty), (.int .u64 0)], (.struct [(9, 0), (12, 1)])⟩ := rfl
@[go_sem] theorem look15 : look tab 15 = some ⟨1, 8, [(.pointer none)], .flat⟩ := rfl
@[go_sem] theorem look16 : look tab 16 = some ⟨1, 8, [(.pointer none)], .flat⟩ := rfl
@[go_sem] theorem look17 : look tab 17 = some ⟨1, 8, [(.pointer none)], .flat⟩ := rfl
@[go_sem] theorem look18 : look tab 18 = some ⟨1, 8, [(.pointer none)], (.struct [(17, 0)])⟩ := rfl
@[go_sem] theorem look19 : look tab 19 = some ⟨1, 8, [(.pointer none)], (.struct [(17, 0)])⟩ := rfl
@[go_sem] theorem look21 : look tab 21 = some ⟨1, 4, [(.int .i32 0)], (.int .i32)⟩ := rfl
@[go_sem] theorem look29 : look tab 29 = some ⟨1, 24, [(.slice none 0 0)], (.slice 5)⟩ := rfl
@[go_sem] theorem look33 : look tab 33 = some ⟨5, 40, [(.int .i64 0), (.int .i64 0), (.int .i64 0), (.int .i64 0), (.int .i64 0)], (.struct [(3, 0), (3, 1), (3, 2), (3, 3), (3, 4)])⟩ := rfl
@[go_sem] theorem look34 : look tab 34 = some ⟨5, 40, [(.int .i64 0), (.int .i64 0), (.int .i64 0), (.int .i64 0), (.int .i64 0)], (.struct [(3, 0), (3, 1), (3, 2), (3, 3), (3, 4)])⟩ := rfl
@[go_sem] theorem look35 : look tab 35 = some ⟨2, 16, [(.int .i64 0), (.bool false)], (.struct [(3, 0), (4, 1)])⟩ := rfl
@[go_sem] theorem look36 : look tab 36 = some ⟨2, 16, [(.int .i64 0), (.bool false)], (.struct [(3, 0), (4, 1)])⟩ := rfl
@[go_sem] theorem look37 : look tab 37 = some ⟨5, 40, [(.int .i64 0), (.int .i64 0), (.int .i64 0), (.int .i64 0), (.int .i64 0)], (.struct [(3, 0), (3, 1), (3, 2), (3, 3), (3, 4)])⟩ := rfl
@[go_sem] theorem look41 : look tab 41 = some ⟨2, 16, [(.int .i64 0), (.bool false)], (.struct [(3, 0), (4, 1)])⟩ := rfl
@[go_sem] theorem look45 : look tab 45 = some ⟨1, 24, [(.slice none 0 0)], (.slice 9)⟩ := rfl
@[go_sem] theorem look46 : look tab 46 = some ⟨1, 24, [(.slice none 0 0)], (.slice 117)⟩ := rfl
@[go_sem] theorem look47 : look tab 47 = some ⟨5, 88, [(.int .i64 0), (.slice none 0 0), (.int .i64 0), (.slice none 0 0), (.slice none 0 0)], (.struct [(3, 0), (45, 1), (3, 2), (45, 3), (46, 4)])⟩ := rfl
@[go_sem] theorem look48 : look tab 48 = some ⟨5, 88, [(.int .i64 0), (.slice none 0 0), (.int .i64 0), (.slice none 0 0), (.slice none 0 0)], (.struct [(3, 0), (45, 1), (3, 2), (45, 3), (46, 4)])⟩ := rfl
@[go_sem] theorem look53 : look tab 53 = some ⟨1, 24, [(.slice none 0 0)], (.slice 152)⟩ := rfl
@[go_sem] theorem look54 : look tab 54 = some ⟨1, 24, [(.slice none 0 0)], (.struct [(53, 0)])⟩ := rfl
@[go_sem] theorem look55 : look tab 55 = some ⟨1, 24, [(.slice none 0 0)], (.struct [(53, 0)])⟩ := rfl
@[go_sem] theorem look56 : look tab 56 = some ⟨3, 40, [(.int .i64 0), (.int .i64 0), (.slice none 0 0)], (.struct [(3, 0), (3, 1), (55, 2)])⟩ := rfl
@[go_sem] theorem look57 : look tab 57 = some ⟨3, 40, [(.int .i64 0), (.int .i64 0), (.slice none 0 0)], (.struct [(3, 0), (3, 1), (55, 2)])⟩ := rfl
@[go_sem] theorem look62 : look tab 62 = some ⟨1, 24, [(.slice none 0 0)], (.slice 36)⟩ := rfl
@[go_sem] theorem look64 : look tab 64 = some ⟨1, 24, [(.slice none 0 0)], (.slice 4)⟩ := rfl
@[go_sem] theorem look67 : look tab 67 = some ⟨1, 24, [(.slice none 0 0)], (.slice 41)⟩ := rfl
@[go_sem] theorem look74 : look tab 74 = some ⟨1, 24, [(.slice none 0 0)], (.slice 138)⟩ := rfl
@[go_sem] theorem look75 : look tab 75 = some ⟨5, 88, [(.int .i64 0), (.slice none 0 0), (.int .i64 0), (.slice none 0 0), (.slice none 0 0)], (.struct [(3, 0), (45, 1), (3, 2), (45, 3), (74, 4)])⟩ := rfl
@[go_sem] theorem look76 : look tab 76 = some ⟨5, 88, [(.int .i64 0), (.slice none 0 0), (.int .i64 0), (.slice none 0 0), (.slice none 0 0)], (.struct [(3, 0), (45, 1), (3, 2), (45, 3), (74, 4)])⟩ := rfl
@[go_sem] theorem look88 : look tab 88 = some ⟨1, 24, [(.slice none 0 0)], (.slice 57)⟩ := rfl
@[go_sem] theorem look89 : look tab 89 = some ⟨1, 24, [(.slice none 0 0)], (.slice 147)⟩ := rfl
@[go_sem] theorem look90 : look tab 90 = some ⟨2, 48, [(.slice none 0 0), (.slice none 0 0)], (.struct [(88, 0), (89, 1)])⟩ := rfl
@[go_sem] theorem look91 : look tab 91 = some ⟨2, 48, [(.slice none 0 0), (.slice none 0 0)], (.struct [(88, 0), (89, 1)])⟩ := rfl
@[go_sem] theorem look98 : look tab 98 = some ⟨1, 8, [(.pointer none)], .flat⟩ := rfl
@[go_sem] theorem look99 : look tab 99 = some ⟨1, 8, [(.int .u64 0)], (.int .u64)⟩ := rfl
@[go_sem] theorem look100 : look tab 100 = some ⟨3, 40, [(.slice none 0 0), (.int .i64 0), (.int .u64 0)], (.struct [(29, 0), (3, 1), (99, 2)])⟩ := rfl
@[go_sem] theorem look101 : look tab 101 = some ⟨3, 40, [(.slice none 0 0), (.int .i64 0), (.int .u64 0)], (.struct [(29, 0), (3, 1), (99, 2)])⟩ := rfl
@[go_sem] theorem look116 : look tab 116 = some ⟨3, 32, [(.bool false), (.int .i64 0), (.string .empty)], (.struct [(4, 0), (3, 1), (9, 2)])⟩ := rfl
@[go_sem] theorem look117 : look tab 117 = some ⟨3, 32, [(.bool false), (.int .i64 0), (.string .empty)], (.struct [(4, 0), (3, 1), (9, 2)])⟩ := rfl
@[go_sem] theorem look131 : look tab 131 = some ⟨1, 24, [(.slice none 0 0)], (.slice 3)⟩ := rfl
@[go_sem] theorem look132 : look tab 132 = some ⟨1, 8, [(.pointer none)], .flat⟩ := rfl
@[go_sem] theorem look138 : look tab 138 = some ⟨3, 32, [(.bool false), (.int .i64 0), (.string .empty)], (.struct [(4, 0), (3, 1), (9, 2)])⟩ := rfl
@[go_sem] theorem look142 : look tab 142 = some ⟨1, 8, [(.pointer none)], .flat⟩ := rfl
@[go_sem] theorem look144 : look tab 144 = some ⟨2, 32, [(.int .i64 0), (.slice none 0 0)], (.struct [(3, 0), (55, 1)])⟩ := rfl
@[go_sem] theorem look145 : look tab 145 = some ⟨2, 32, [(.int .i64 0), (.slice none 0 0)], (.struct [(3, 0), (55, 1)])⟩ := rfl
@[go_sem] theorem look146 : look tab 146 = some ⟨3, 40, [(.int .i64 0), (.int .i64 0), (.slice none 0 0)], (.struct [(3, 0), (145, 1)])⟩ := rfl
@[go_sem] theorem look147 : look tab 147 = some ⟨3, 40, [(.int .i64 0), (.int .i64 0), (.slice none 0 0)], (.struct [(3, 0), (145, 1)])⟩ := rfl
@[go_sem] theorem look148 : look tab 148 = some ⟨1, 8, [(.int .u64 0)], (.int .u64)⟩ := rfl
@[go_sem] theorem look150 : look tab 150 = some ⟨1, 24, [(.slice none 0 0)], (.slice 157)⟩ := rfl
@[go_sem] theorem look151 : look tab 151 = some ⟨1, 24, [(.slice none 0 0)], (.struct [(150, 0)])⟩ := rfl
@[go_sem] theorem look152 : look tab 152 = some ⟨1, 24, [(.slice none 0 0)], (.struct [(150, 0)])⟩ := rfl
@[go_sem] theorem look156 : look tab 156 = some ⟨4, 40, [(.int .i64 0), (.int .i64 0), (.int .i64 0), (.string .empty)], (.struct [(3, 0), (3, 1), (3, 2), (9, 3)])⟩ := rfl
@[go_sem] theorem look157 : look tab 157 = some ⟨4, 40, [(.int .i64 0), (.int .i64 0), (.int .i64 0), (.string .empty)], (.struct [(3, 0), (3, 1), (3, 2), (9, 3)])⟩ := rfl
@[go_sem] theorem look160 : look tab 160 = some ⟨4, 40, [(.pointer none), (.pointer none), (.pointer none), (.string .empty)], (.struct [(17, 0), (17, 1), (17, 2), (9, 3)])⟩ := rfl
@[go_sem] theorem look161 : look tab 161 = some ⟨4, 40, [(.pointer none), (.pointer none), (.pointer none), (.string .empty)], (.struct [(17, 0), (17, 1), (17, 2), (9, 3)])⟩ := rfl
@[go_sem] theorem look163 : look tab 163 = some ⟨0, 0, [], (.struct [(162, 0)])⟩ := rfl
@[go_sem] theorem look164 : look tab 164 = some ⟨0, 0, [], (.struct [(162, 0)])⟩ := rfl
@[go_sem] theorem look165 : look tab 165 = some ⟨1, 4, [(.int .u32 0)], (.int .u32)⟩ := rfl
@[go_sem] theorem look166 : look tab 166 = some ⟨1, 1, [(.int .u8 0)], (.int .u8)⟩ := rfl
@[go_sem] theorem look167 : look tab 167 = some ⟨1, 1, [(.int .u8 0)], (.int .u8)⟩ := rfl
@[go_sem] theorem look169 : look tab 169 = some ⟨1, 8, [(.pointer none)], .flat⟩ := rfl
@[go_sem] theorem look170 : look tab 170 = some ⟨1, 4, [(.int .i32 0)], (.int .i32)⟩ := rfl
@[go_sem] theorem look171 : look tab 171 = some ⟨1, 4, [(.int .i32 0)], (.int .i32)⟩ := rfl
theorem mixed : Try.prog.follows .mixedOrders = true := by kernel_rfl
end Go.TL.Ytmmhgioeoikgbaa
