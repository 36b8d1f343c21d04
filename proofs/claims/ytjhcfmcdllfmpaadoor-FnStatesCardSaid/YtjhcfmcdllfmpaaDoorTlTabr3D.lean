import Derived.Test.YtjhcfmcdllfmpaaDoorTlAttr
import Derived.Test.YtjhcfmcdllfmpaaDoorProg
import Derived.KernelRfl
set_option linter.unusedSimpArgs false
set_option linter.unusedVariables false
namespace Go.TL.YtjhcfmcdllfmpaaDoor
open Go Go.Proofs
theorem tab_cons {P : Program} {t : Nat} {e : TE} {r : Tab} (h : OkT P t e) (k : TabOk P r) : TabOk P ((t, e) :: r) := fun p hp => by
  rcases List.mem_cons.1 hp with rfl | hp
  · exact h
  · exact k p hp
theorem tab_nil {P : Program} : TabOk P [] := fun p hp => by cases hp
def tab : Tab := [(2, ⟨1, 8, [(.int .i64 0)], (.int .i64)⟩), (3, ⟨1, 8, [(.int .i64 0)], (.int .i64)⟩), (4, ⟨1, 1, [(.bool false)], .bool⟩), (5, ⟨1, 1, [(.int .u8 0)], (.int .u8)⟩), (6, ⟨1, 1, [(.int .u8 0)], (.int .u8)⟩), (7, ⟨4, 24, [(.int .i64 0), (.int .i64 0), (.bool false), (.int .u8 0)], (.struct [(2, 0), (3, 1), (4, 2), (6, 3)])⟩), (8, ⟨4, 24, [(.int .i64 0), (.int .i64 0), (.bool false), (.int .u8 0)], (.struct [(2, 0), (3, 1), (4, 2), (6, 3)])⟩), (9, ⟨1, 16, [(.string .empty)], .str⟩), (10, ⟨1, 16, [(.string .empty)], .str⟩), (11, ⟨1, 16, [(.string .empty)], .str⟩), (12, ⟨1, 8, [(.int .u64 0)], (.int .u64)⟩), (13, ⟨2, 24, [(.string .empty), (.int .u64 0)], (.struct [(9, 0), (12, 1)])⟩), (14, ⟨2, 24, [(.string .empty), (.int .u64 0)], (.struct [(9, 0), (12, 1)])⟩), (15, ⟨1, 8, [(.pointer none)], .flat⟩), (16, ⟨1, 8, [(.pointer none)], .flat⟩), (17, ⟨1, 8, [(.pointer none)], .flat⟩), (18, ⟨1, 8, [(.pointer none)], (.struct [(17, 0)])⟩), (19, ⟨1, 8, [(.pointer none)], (.struct [(17, 0)])⟩), (21, ⟨1, 4, [(.int .i32 0)], (.int .i32)⟩), (22, ⟨1, 24, [(.slice none 0 0)], (.slice 88)⟩), (26, ⟨1, 24, [(.slice none 0 0)], (.slice 45)⟩), (30, ⟨1, 24, [(.slice none 0 0)], (.slice 9)⟩), (37, ⟨6, 80, [(.int .i64 0), (.int .i64 0), (.bool false), (.int .i64 0), (.slice none 0 0), (.slice none 0 0)], (.struct [(3, 0), (3, 1), (4, 2), (3, 3), (30, 4), (30, 5)])⟩), (38, ⟨6, 80, [(.int .i64 0), (.int .i64 0), (.bool false), (.int .i64 0), (.slice none 0 0), (.slice none 0 0)], (.struct [(3, 0), (3, 1), (4, 2), (3, 3), (30, 4), (30, 5)])⟩), (43, ⟨1, 24, [(.slice none 0 0)], (.slice 5)⟩), (44, ⟨4, 40, [(.int .i64 0), (.int .i64 0), (.int .i64 0), (.string .empty)], (.struct [(3, 0), (3, 1), (3, 2), (9, 3)])⟩), (45, ⟨4, 40, [(.int .i64 0), (.int .i64 0), (.int .i64 0), (.string .empty)], (.struct [(3, 0), (3, 1), (3, 2), (9, 3)])⟩), (59, ⟨1, 24, [(.slice none 0 0)], (.slice 113)⟩), (61, ⟨1, 24, [(.slice none 0 0)], (.slice 114)⟩), (76, ⟨1, 24, [(.slice none 0 0)], (.slice 154)⟩), (77, ⟨1, 24, [(.slice none 0 0)], (.struct [(76, 0)])⟩), (78, ⟨1, 24, [(.slice none 0 0)], (.struct [(76, 0)])⟩), (81, ⟨1, 24, [(.slice none 0 0)], (.slice 130)⟩), (82, ⟨1, 24, [(.slice none 0 0)], (.struct [(81, 0)])⟩), (83, ⟨1, 24, [(.slice none 0 0)], (.struct [(81, 0)])⟩), (88, ⟨4, 40, [(.int .i64 0), (.int .i64 0), (.int .i64 0), (.string .empty)], (.struct [(3, 0), (3, 1), (3, 2), (9, 3)])⟩), (95, ⟨1, 8, [(.pointer none)], .flat⟩), (96, ⟨1, 8, [(.int .u64 0)], (.int .u64)⟩), (97, ⟨3, 40, [(.slice none 0 0), (.int .i64 0), (.int .u64 0)], (.struct [(43, 0), (3, 1), (96, 2)])⟩), (98, ⟨3, 40, [(.slice none 0 0), (.int .i64 0), (.int .u64 0)], (.struct [(43, 0), (3, 1), (96, 2)])⟩), (112, ⟨3, 40, [(.string .empty), (.int .i64 0), (.string .empty)], (.struct [(9, 0), (3, 1), (9, 2)])⟩), (113, ⟨3, 40, [(.string .empty), (.int .i64 0), (.string .empty)], (.struct [(9, 0), (3, 1), (9, 2)])⟩), (114, ⟨3, 40, [(.string .empty), (.int .i64 0), (.string .empty)], (.struct [(9, 0), (3, 1), (9, 2)])⟩), (129, ⟨1, 24, [(.slice none 0 0)], (.struct [(26, 0)])⟩), (130, ⟨1, 24, [(.slice none 0 0)], (.struct [(26, 0)])⟩), (135, ⟨1, 24, [(.slice none 0 0)], (.slice 3)⟩), (138, ⟨1, 8, [(.pointer none)], .flat⟩), (151, ⟨1, 8, [(.int .u64 0)], (.int .u64)⟩), (153, ⟨1, 24, [(.slice none 0 0)], (.struct [(22, 0)])⟩), (154, ⟨1, 24, [(.slice none 0 0)], (.struct [(22, 0)])⟩), (167, ⟨1, 8, [(.pointer none)], .flat⟩), (169, ⟨1, 8, [(.int .i64 0)], (.int .i64)⟩), (176, ⟨1, 4, [(.int .u32 0)], (.int .u32)⟩), (183, ⟨1, 8, [(.int .u64 0)], (.int .u64)⟩), (187, ⟨1, 8, [(.pointer none)], .flat⟩), (190, ⟨1, 8, [(.pointer none)], .flat⟩), (194, ⟨2, 2, [(.int .u8 0), (.int .u8 0)], (.struct [(5, 0), (5, 1)])⟩), (195, ⟨2, 2, [(.int .u8 0), (.int .u8 0)], (.struct [(5, 0), (5, 1)])⟩), (199, ⟨4, 40, [(.pointer none), (.pointer none), (.pointer none), (.string .empty)], (.struct [(17, 0), (17, 1), (17, 2), (9, 3)])⟩), (200, ⟨4, 40, [(.pointer none), (.pointer none), (.pointer none), (.string .empty)], (.struct [(17, 0), (17, 1), (17, 2), (9, 3)])⟩), (202, ⟨0, 0, [], (.struct [(201, 0)])⟩), (203, ⟨0, 0, [], (.struct [(201, 0)])⟩), (204, ⟨1, 1, [(.int .u8 0)], (.int .u8)⟩), (205, ⟨1, 1, [(.int .u8 0)], (.int .u8)⟩), (207, ⟨1, 8, [(.pointer none)], .flat⟩), (208, ⟨1, 4, [(.int .i32 0)], (.int .i32)⟩), (209, ⟨1, 4, [(.int .i32 0)], (.int .i32)⟩)]
theorem ok2 : OkT Tryd.prog 2 ⟨1, 8, [(.int .i64 0)], (.int .i64)⟩ := ⟨by kernel_rfl, by kernel_rfl⟩
theorem ok3 : OkT Tryd.prog 3 ⟨1, 8, [(.int .i64 0)], (.int .i64)⟩ := ⟨by kernel_rfl, by kernel_rfl⟩
theorem ok4 : OkT Tryd.prog 4 ⟨1, 1, [(.bool false)], .bool⟩ := ⟨by kernel_rfl, by kernel_rfl⟩
theorem ok5 : OkT Tryd.prog 5 ⟨1, 1, [(.int .u8 0)], (.int .u8)⟩ := ⟨by kernel_rfl, by kernel_rfl⟩
theorem ok6 : OkT Tryd.prog 6 ⟨1, 1, [(.int .u8 0)], (.int .u8)⟩ := ⟨by kernel_rfl, by kernel_rfl⟩
theorem ok7 : OkT Tryd.prog 7 ⟨4, 24, [(.int .i64 0), (.int .i64 0), (.bool false), (.int .u8 0)], (.struct [(2, 0), (3, 1), (4, 2), (6, 3)])⟩ := ⟨by kernel_rfl, by kernel_rfl⟩
theorem ok8 : OkT Tryd.prog 8 ⟨4, 24, [(.int .i64 0), (.int .i64 0), (.bool false), (.int .u8 0)], (.struct [(2, 0), (3, 1), (4, 2), (6, 3)])⟩ := ⟨by kernel_rfl, by kernel_rfl⟩
theorem ok9 : OkT Tryd.prog 9 ⟨1, 16, [(.string .empty)], .str⟩ := ⟨by kernel_rfl, by kernel_rfl⟩
theorem ok10 : OkT Tryd.prog 10 ⟨1, 16, [(.string .empty)], .str⟩ := ⟨by kernel_rfl, by kernel_rfl⟩
theorem ok11 : OkT Tryd.prog 11 ⟨1, 16, [(.string .empty)], .str⟩ := ⟨by kernel_rfl, by kernel_rfl⟩
theorem ok12 : OkT Tryd.prog 12 ⟨1, 8, [(.int .u64 0)], (.int .u64)⟩ := ⟨by kernel_rfl, by kernel_rfl⟩
theorem ok13 : OkT Tryd.prog 13 ⟨2, 24, [(.string .empty), (.int .u64 0)], (.struct [(9, 0), (12, 1)])⟩ := ⟨by kernel_rfl, by kernel_rfl⟩
theorem ok14 : OkT Tryd.prog 14 ⟨2, 24, [(.string .empty), (.int .u64 0)], (.struct [(9, 0), (12, 1)])⟩ := ⟨by kernel_rfl, by kernel_rfl⟩
theorem ok15 : OkT Tryd.prog 15 ⟨1, 8, [(.pointer none)], .flat⟩ := ⟨by kernel_rfl, by kernel_rfl⟩
theorem ok16 : OkT Tryd.prog 16 ⟨1, 8, [(.pointer none)], .flat⟩ := ⟨by kernel_rfl, by kernel_rfl⟩
theorem ok17 : OkT Tryd.prog 17 ⟨1, 8, [(.pointer none)], .flat⟩ := ⟨by kernel_rfl, by kernel_rfl⟩
theorem ok18 : OkT Tryd.prog 18 ⟨1, 8, [(.pointer none)], (.struct [(17, 0)])⟩ := ⟨by kernel_rfl, by kernel_rfl⟩
theorem ok19 : OkT Tryd.prog 19 ⟨1, 8, [(.pointer none)], (.struct [(17, 0)])⟩ := ⟨by kernel_rfl, by kernel_rfl⟩
theorem ok21 : OkT Tryd.prog 21 ⟨1, 4, [(.int .i32 0)], (.int .i32)⟩ := ⟨by kernel_rfl, by kernel_rfl⟩
theorem ok22 : OkT Tryd.prog 22 ⟨1, 24, [(.slice none 0 0)], (.slice 88)⟩ := ⟨by kernel_rfl, by kernel_rfl⟩
theorem ok26 : OkT Tryd.prog 26 ⟨1, 24, [(.slice none 0 0)], (.slice 45)⟩ := ⟨by kernel_rfl, by kernel_rfl⟩
theorem ok30 : OkT Tryd.prog 30 ⟨1, 24, [(.slice none 0 0)], (.slice 9)⟩ := ⟨by kernel_rfl, by kernel_rfl⟩
theorem ok37 : OkT Tryd.prog 37 ⟨6, 80, [(.int .i64 0), (.int .i64 0), (.bool false), (.int .i64 0), (.slice none 0 0), (.slice none 0 0)], (.struct [(3, 0), (3, 1), (4, 2), (3, 3), (30, 4), (30, 5)])⟩ := ⟨by kernel_rfl, by kernel_rfl⟩
theorem ok38 : OkT Tryd.prog 38 ⟨6, 80, [(.int .i64 0), (.int .i64 0), (.bool false), (.int .i64 0), (.slice none 0 0), (.slice none 0 0)], (.struct [(3, 0), (3, 1), (4, 2), (3, 3), (30, 4), (30, 5)])⟩ := ⟨by kernel_rfl, by kernel_rfl⟩
theorem ok43 : OkT Tryd.prog 43 ⟨1, 24, [(.slice none 0 0)], (.slice 5)⟩ := ⟨by kernel_rfl, by kernel_rfl⟩
theorem ok44 : OkT Tryd.prog 44 ⟨4, 40, [(.int .i64 0), (.int .i64 0), (.int .i64 0), (.string .empty)], (.struct [(3, 0), (3, 1), (3, 2), (9, 3)])⟩ := ⟨by kernel_rfl, by kernel_rfl⟩
theorem ok45 : OkT Tryd.prog 45 ⟨4, 40, [(.int .i64 0), (.int .i64 0), (.int .i64 0), (.string .empty)], (.struct [(3, 0), (3, 1), (3, 2), (9, 3)])⟩ := ⟨by kernel_rfl, by kernel_rfl⟩
theorem ok59 : OkT Tryd.prog 59 ⟨1, 24, [(.slice none 0 0)], (.slice 113)⟩ := ⟨by kernel_rfl, by kernel_rfl⟩
theorem ok61 : OkT Tryd.prog 61 ⟨1, 24, [(.slice none 0 0)], (.slice 114)⟩ := ⟨by kernel_rfl, by kernel_rfl⟩
theorem ok76 : OkT Tryd.prog 76 ⟨1, 24, [(.slice none 0 0)], (.slice 154)⟩ := ⟨by kernel_rfl, by kernel_rfl⟩
theorem ok77 : OkT Tryd.prog 77 ⟨1, 24, [(.slice none 0 0)], (.struct [(76, 0)])⟩ := ⟨by kernel_rfl, by kernel_rfl⟩
theorem ok78 : OkT Tryd.prog 78 ⟨1, 24, [(.slice none 0 0)], (.struct [(76, 0)])⟩ := ⟨by kernel_rfl, by kernel_rfl⟩
theorem ok81 : OkT Tryd.prog 81 ⟨1, 24, [(.slice none 0 0)], (.slice 130)⟩ := ⟨by kernel_rfl, by kernel_rfl⟩
theorem ok82 : OkT Tryd.prog 82 ⟨1, 24, [(.slice none 0 0)], (.struct [(81, 0)])⟩ := ⟨by kernel_rfl, by kernel_rfl⟩
theorem ok83 : OkT Tryd.prog 83 ⟨1, 24, [(.slice none 0 0)], (.struct [(81, 0)])⟩ := ⟨by kernel_rfl, by kernel_rfl⟩
theorem ok88 : OkT Tryd.prog 88 ⟨4, 40, [(.int .i64 0), (.int .i64 0), (.int .i64 0), (.string .empty)], (.struct [(3, 0), (3, 1), (3, 2), (9, 3)])⟩ := ⟨by kernel_rfl, by kernel_rfl⟩
theorem ok95 : OkT Tryd.prog 95 ⟨1, 8, [(.pointer none)], .flat⟩ := ⟨by kernel_rfl, by kernel_rfl⟩
theorem ok96 : OkT Tryd.prog 96 ⟨1, 8, [(.int .u64 0)], (.int .u64)⟩ := ⟨by kernel_rfl, by kernel_rfl⟩
theorem ok97 : OkT Tryd.prog 97 ⟨3, 40, [(.slice none 0 0), (.int .i64 0), (.int .u64 0)], (.struct [(43, 0), (3, 1), (96, 2)])⟩ := ⟨by kernel_rfl, by kernel_rfl⟩
theorem ok98 : OkT Tryd.prog 98 ⟨3, 40, [(.slice none 0 0), (.int .i64 0), (.int .u64 0)], (.struct [(43, 0), (3, 1), (96, 2)])⟩ := ⟨by kernel_rfl, by kernel_rfl⟩
theorem ok112 : OkT Tryd.prog 112 ⟨3, 40, [(.string .empty), (.int .i64 0), (.string .empty)], (.struct [(9, 0), (3, 1), (9, 2)])⟩ := ⟨by kernel_rfl, by kernel_rfl⟩
theorem ok113 : OkT Tryd.prog 113 ⟨3, 40, [(.string .empty), (.int .i64 0), (.string .empty)], (.struct [(9, 0), (3, 1), (9, 2)])⟩ := ⟨by kernel_rfl, by kernel_rfl⟩
theorem ok114 : OkT Tryd.prog 114 ⟨3, 40, [(.string .empty), (.int .i64 0), (.string .empty)], (.struct [(9, 0), (3, 1), (9, 2)])⟩ := ⟨by kernel_rfl, by kernel_rfl⟩
theorem ok129 : OkT Tryd.prog 129 ⟨1, 24, [(.slice none 0 0)], (.struct [(26, 0)])⟩ := ⟨by kernel_rfl, by kernel_rfl⟩
theorem ok130 : OkT Tryd.prog 130 ⟨1, 24, [(.slice none 0 0)], (.struct [(26, 0)])⟩ := ⟨by kernel_rfl, by kernel_rfl⟩
theorem ok135 : OkT Tryd.prog 135 ⟨1, 24, [(.slice none 0 0)], (.slice 3)⟩ := ⟨by kernel_rfl, by kernel_rfl⟩
theorem ok138 : OkT Tryd.prog 138 ⟨1, 8, [(.pointer none)], .flat⟩ := ⟨by kernel_rfl, by kernel_rfl⟩
theorem ok151 : OkT Tryd.prog 151 ⟨1, 8, [(.int .u64 0)], (.int .u64)⟩ := ⟨by kernel_rfl, by kernel_rfl⟩
theorem ok153 : OkT Tryd.prog 153 ⟨1, 24, [(.slice none 0 0)], (.struct [(22, 0)])⟩ := ⟨by kernel_rfl, by kernel_rfl⟩
theorem ok154 : OkT Tryd.prog 154 ⟨1, 24, [(.slice none 0 0)], (.struct [(22, 0)])⟩ := ⟨by kernel_rfl, by kernel_rfl⟩
theorem ok167 : OkT Tryd.prog 167 ⟨1, 8, [(.pointer none)], .flat⟩ := ⟨by kernel_rfl, by kernel_rfl⟩
theorem ok169 : OkT Tryd.prog 169 ⟨1, 8, [(.int .i64 0)], (.int .i64)⟩ := ⟨by kernel_rfl, by kernel_rfl⟩
theorem ok176 : OkT Tryd.prog 176 ⟨1, 4, [(.int .u32 0)], (.int .u32)⟩ := ⟨by kernel_rfl, by kernel_rfl⟩
theorem ok183 : OkT Tryd.prog 183 ⟨1, 8, [(.int .u64 0)], (.int .u64)⟩ := ⟨by kernel_rfl, by kernel_rfl⟩
theorem ok187 : OkT Tryd.prog 187 ⟨1, 8, [(.pointer none)], .flat⟩ := ⟨by kernel_rfl, by kernel_rfl⟩
theorem ok190 : OkT Tryd.prog 190 ⟨1, 8, [(.pointer none)], .flat⟩ := ⟨by kernel_rfl, by kernel_rfl⟩
theorem ok194 : OkT Tryd.prog 194 ⟨2, 2, [(.int .u8 0), (.int .u8 0)], (.struct [(5, 0), (5, 1)])⟩ := ⟨by kernel_rfl, by kernel_rfl⟩
theorem ok195 : OkT Tryd.prog 195 ⟨2, 2, [(.int .u8 0), (.int .u8 0)], (.struct [(5, 0), (5, 1)])⟩ := ⟨by kernel_rfl, by kernel_rfl⟩
theorem ok199 : OkT Tryd.prog 199 ⟨4, 40, [(.pointer none), (.pointer none), (.pointer none), (.string .empty)], (.struct [(17, 0), (17, 1), (17, 2), (9, 3)])⟩ := ⟨by kernel_rfl, by kernel_rfl⟩
theorem ok200 : OkT Tryd.prog 200 ⟨4, 40, [(.pointer none), (.pointer none), (.pointer none), (.string .empty)], (.struct [(17, 0), (17, 1), (17, 2), (9, 3)])⟩ := ⟨by kernel_rfl, by kernel_rfl⟩
theorem ok202 : OkT Tryd.prog 202 ⟨0, 0, [], (.struct [(201, 0)])⟩ := ⟨by kernel_rfl, by kernel_rfl⟩
theorem ok203 : OkT Tryd.prog 203 ⟨0, 0, [], (.struct [(201, 0)])⟩ := ⟨by kernel_rfl, by kernel_rfl⟩
theorem ok204 : OkT Tryd.prog 204 ⟨1, 1, [(.int .u8 0)], (.int .u8)⟩ := ⟨by kernel_rfl, by kernel_rfl⟩
theorem ok205 : OkT Tryd.prog 205 ⟨1, 1, [(.int .u8 0)], (.int .u8)⟩ := ⟨by kernel_rfl, by kernel_rfl⟩
theorem ok207 : OkT Tryd.prog 207 ⟨1, 8, [(.pointer none)], .flat⟩ := ⟨by kernel_rfl, by kernel_rfl⟩
theorem ok208 : OkT Tryd.prog 208 ⟨1, 4, [(.int .i32 0)], (.int .i32)⟩ := ⟨by kernel_rfl, by kernel_rfl⟩
theorem ok209 : OkT Tryd.prog 209 ⟨1, 4, [(.int .i32 0)], (.int .i32)⟩ := ⟨by kernel_rfl, by kernel_rfl⟩
theorem tab_ok : TabOk Tryd.prog tab := tab_cons ok2 <| tab_cons ok3 <| tab_cons ok4 <| tab_cons ok5 <| tab_cons ok6 <| tab_cons ok7 <| tab_cons ok8 <| tab_cons ok9 <| tab_cons ok10 <| tab_cons ok11 <| tab_cons ok12 <| tab_cons ok13 <| tab_cons ok14 <| tab_cons ok15 <| tab_cons ok16 <| tab_cons ok17 <| tab_cons ok18 <| tab_cons ok19 <| tab_cons ok21 <| tab_cons ok22 <| tab_cons ok26 <| tab_cons ok30 <| tab_cons ok37 <| tab_cons ok38 <| tab_cons ok43 <| tab_cons ok44 <| tab_cons ok45 <| tab_cons ok59 <| tab_cons ok61 <| tab_cons ok76 <| tab_cons ok77 <| tab_cons ok78 <| tab_cons ok81 <| tab_cons ok82 <| tab_cons ok83 <| tab_cons ok88 <| tab_cons ok95 <| tab_cons ok96 <| tab_cons ok97 <| tab_cons ok98 <| tab_cons ok112 <| tab_cons ok113 <| tab_cons ok114 <| tab_cons ok129 <| tab_cons ok130 <| tab_cons ok135 <| tab_cons ok138 <| tab_cons ok151 <| tab_cons ok153 <| tab_cons ok154 <| tab_cons ok167 <| tab_cons ok169 <| tab_cons ok176 <| tab_cons ok183 <| tab_cons ok187 <| tab_cons ok190 <| tab_cons ok194 <| tab_cons ok195 <| tab_cons ok199 <| tab_cons ok200 <| tab_cons ok202 <| tab_cons ok203 <| tab_cons ok204 <| tab_cons ok205 <| tab_cons ok207 <| tab_cons ok208 <| tab_cons ok209 <| tab_nil
@[go_sem] theorem look2 : look tab 2 = some ⟨1, 8, [(.int .i64 0)], (.int .i64)⟩ := rfl
@[go_sem] theorem look3 : look tab 3 = some ⟨1, 8, [(.int .i64 0)], (.int .i64)⟩ := rfl
@[go_sem] theorem look4 : look tab 4 = some ⟨1, 1, [(.bool false)], .bool⟩ := rfl
@[go_sem] theorem look5 : look tab 5 = some ⟨1, 1, [(.int .u8 0)], (.int .u8)⟩ := rfl
@[go_sem] theorem look6 : look tab 6 = some ⟨1, 1, [(.int .u8 0)], (.int .u8)⟩ := rfl
@[go_sem] theorem look7 : look tab 7 = some ⟨4, 24, [(.int .i64 0), (.int .i64 0), (.bool false), (.int .u8 0)], (.struct [(2, 0), (3, 1), (4, 2), (6, 3)])⟩ := rfl
@[go_sem] theorem look8 : look tab 8 = some ⟨4, 24, [(.int .i64 0), (.int .i64 0), (.bool false), (.int .u8 0)], (.struct [(2, 0), (3, 1), (4, 2), (6, 3)])⟩ := rfl
@[go_sem] theorem look9 : look tab 9 = some ⟨1, 16, [(.string .empty)], .str⟩ := rfl
@[go_sem] theorem look10 : look tab 10 = some ⟨1, 16, [(.string .empty)], .str⟩ := rfl
@[go_sem] theorem look11 : look tab 11 = some ⟨1, 16, [(.string .empty)], .str⟩ := rfl
@[go_sem] theorem look12 : look tab 12 = some ⟨1, 8, [(.int .u64 0)], (.int .u64)⟩ := rfl
@[go_sem] theorem look13 : look tab 13 = some ⟨2, 24, [(.string .empty), (.int .u64 0)], (.struct [(9, 0), (12, 1)])⟩ := rfl
@[go_sem] theorem look14 : look tab 14 = some ⟨2, 24, [(.string .empty), (.int .u64 0)], (.struct [(9, 0), (12, 1)])⟩ := rfl
@[go_sem] theorem look15 : look tab 15 = some ⟨1, 8, [(.pointer none)], .flat⟩ := rfl
@[go_sem] theorem look16 : look tab 16 = some ⟨1, 8, [(.pointer none)], .flat⟩ := rfl
@[go_sem] theorem look17 : look tab 17 = some ⟨1, 8, [(.pointer none)], .flat⟩ := rfl
@[go_sem] theorem look18 : look tab 18 = some ⟨1, 8, [(.pointer none)], (.struct [(17, 0)])⟩ := rfl
@[go_sem] theorem look19 : look tab 19 = some ⟨1, 8, [(.pointer none)], (.struct [(17, 0)])⟩ := rfl
@[go_sem] theorem look21 : look tab 21 = some ⟨1, 4, [(.int .i32 0)], (.int .i32)⟩ := rfl
@[go_sem] theorem look22 : look tab 22 = some ⟨1, 24, [(.slice none 0 0)], (.slice 88)⟩ := rfl
@[go_sem] theorem look26 : look tab 26 = some ⟨1, 24, [(.slice none 0 0)], (.slice 45)⟩ := rfl
@[go_sem] theorem look30 : look tab 30 = some ⟨1, 24, [(.slice none 0 0)], (.slice 9)⟩ := rfl
@[go_sem] theorem look37 : look tab 37 = some ⟨6, 80, [(.int .i64 0), (.int .i64 0), (.bool false), (.int .i64 0), (.slice none 0 0), (.slice none 0 0)], (.struct [(3, 0), (3, 1), (4, 2), (3, 3), (30, 4), (30, 5)])⟩ := rfl
@[go_sem] theorem look38 : look tab 38 = some ⟨6, 80, [(.int .i64 0), (.int .i64 0), (.bool false), (.int .i64 0), (.slice none 0 0), (.slice none 0 0)], (.struct [(3, 0), (3, 1), (4, 2), (3, 3), (30, 4), (30, 5)])⟩ := rfl
@[go_sem] theorem look43 : look tab 43 = some ⟨1, 24, [(.slice none 0 0)], (.slice 5)⟩ := rfl
@[go_sem] theorem look44 : look tab 44 = some ⟨4, 40, [(.int .i64 0), (.int .i64 0), (.int .i64 0), (.string .empty)], (.struct [(3, 0), (3, 1), (3, 2), (9, 3)])⟩ := rfl
@[go_sem] theorem look45 : look tab 45 = some ⟨4, 40, [(.int .i64 0), (.int .i64 0), (.int .i64 0), (.string .empty)], (.struct [(3, 0), (3, 1), (3, 2), (9, 3)])⟩ := rfl
@[go_sem] theorem look59 : look tab 59 = some ⟨1, 24, [(.slice none 0 0)], (.slice 113)⟩ := rfl
@[go_sem] theorem look61 : look tab 61 = some ⟨1, 24, [(.slice none 0 0)], (.slice 114)⟩ := rfl
@[go_sem] theorem look76 : look tab 76 = some ⟨1, 24, [(.slice none 0 0)], (.slice 154)⟩ := rfl
@[go_sem] theorem look77 : look tab 77 = some ⟨1, 24, [(.slice none 0 0)], (.struct [(76, 0)])⟩ := rfl
@[go_sem] theorem look78 : look tab 78 = some ⟨1, 24, [(.slice none 0 0)], (.struct [(76, 0)])⟩ := rfl
@[go_sem] theorem look81 : look tab 81 = some ⟨1, 24, [(.slice none 0 0)], (.slice 130)⟩ := rfl
@[go_sem] theorem look82 : look tab 82 = some ⟨1, 24, [(.slice none 0 0)], (.struct [(81, 0)])⟩ := rfl
@[go_sem] theorem look83 : look tab 83 = some ⟨1, 24, [(.slice none 0 0)], (.struct [(81, 0)])⟩ := rfl
@[go_sem] theorem look88 : look tab 88 = some ⟨4, 40, [(.int .i64 0), (.int .i64 0), (.int .i64 0), (.string .empty)], (.struct [(3, 0), (3, 1), (3, 2), (9, 3)])⟩ := rfl
@[go_sem] theorem look95 : look tab 95 = some ⟨1, 8, [(.pointer none)], .flat⟩ := rfl
@[go_sem] theorem look96 : look tab 96 = some ⟨1, 8, [(.int .u64 0)], (.int .u64)⟩ := rfl
@[go_sem] theorem look97 : look tab 97 = some ⟨3, 40, [(.slice none 0 0), (.int .i64 0), (.int .u64 0)], (.struct [(43, 0), (3, 1), (96, 2)])⟩ := rfl
@[go_sem] theorem look98 : look tab 98 = some ⟨3, 40, [(.slice none 0 0), (.int .i64 0), (.int .u64 0)], (.struct [(43, 0), (3, 1), (96, 2)])⟩ := rfl
@[go_sem] theorem look112 : look tab 112 = some ⟨3, 40, [(.string .empty), (.int .i64 0), (.string .empty)], (.struct [(9, 0), (3, 1), (9, 2)])⟩ := rfl
@[go_sem] theorem look113 : look tab 113 = some ⟨3, 40, [(.string .empty), (.int .i64 0), (.string .empty)], (.struct [(9, 0), (3, 1), (9, 2)])⟩ := rfl
@[go_sem] theorem look114 : look tab 114 = some ⟨3, 40, [(.string .empty), (.int .i64 0), (.string .empty)], (.struct [(9, 0), (3, 1), (9, 2)])⟩ := rfl
@[go_sem] theorem look129 : look tab 129 = some ⟨1, 24, [(.slice none 0 0)], (.struct [(26, 0)])⟩ := rfl
@[go_sem] theorem look130 : look tab 130 = some ⟨1, 24, [(.slice none 0 0)], (.struct [(26, 0)])⟩ := rfl
@[go_sem] theorem look135 : look tab 135 = some ⟨1, 24, [(.slice none 0 0)], (.slice 3)⟩ := rfl
@[go_sem] theorem look138 : look tab 138 = some ⟨1, 8, [(.pointer none)], .flat⟩ := rfl
@[go_sem] theorem look151 : look tab 151 = some ⟨1, 8, [(.int .u64 0)], (.int .u64)⟩ := rfl
@[go_sem] theorem look153 : look tab 153 = some ⟨1, 24, [(.slice none 0 0)], (.struct [(22, 0)])⟩ := rfl
@[go_sem] theorem look154 : look tab 154 = some ⟨1, 24, [(.slice none 0 0)], (.struct [(22, 0)])⟩ := rfl
@[go_sem] theorem look167 : look tab 167 = some ⟨1, 8, [(.pointer none)], .flat⟩ := rfl
@[go_sem] theorem look169 : look tab 169 = some ⟨1, 8, [(.int .i64 0)], (.int .i64)⟩ := rfl
@[go_sem] theorem look176 : look tab 176 = some ⟨1, 4, [(.int .u32 0)], (.int .u32)⟩ := rfl
@[go_sem] theorem look183 : look tab 183 = some ⟨1, 8, [(.int .u64 0)], (.int .u64)⟩ := rfl
@[go_sem] theorem look187 : look tab 187 = some ⟨1, 8, [(.pointer none)], .flat⟩ := rfl
@[go_sem] theorem look190 : look tab 190 = some ⟨1, 8, [(.pointer none)], .flat⟩ := rfl
@[go_sem] theorem look194 : look tab 194 = some ⟨2, 2, [(.int .u8 0), (.int .u8 0)], (.struct [(5, 0), (5, 1)])⟩ := rfl
@[go_sem] theorem look195 : look tab 195 = some ⟨2, 2, [(.int .u8 0), (.int .u8 0)], (.struct [(5, 0), (5, 1)])⟩ := rfl
@[go_sem] theorem look199 : look tab 199 = some ⟨4, 40, [(.pointer none), (.pointer none), (.pointer none), (.string .empty)], (.struct [(17, 0), (17, 1), (17, 2), (9, 3)])⟩ := rfl
@[go_sem] theorem look200 : look tab 200 = some ⟨4, 40, [(.pointer none), (.pointer none), (.pointer none), (.string .empty)], (.struct [(17, 0), (17, 1), (17, 2), (9, 3)])⟩ := rfl
@[go_sem] theorem look202 : look tab 202 = some ⟨0, 0, [], (.struct [(201, 0)])⟩ := rfl
@[go_sem] theorem look203 : look tab 203 = some ⟨0, 0, [], (.struct [(201, 0)])⟩ := rfl
@[go_sem] theorem look204 : look tab 204 = some ⟨1, 1, [(.int .u8 0)], (.int .u8)⟩ := rfl
@[go_sem] theorem look205 : look tab 205 = some ⟨1, 1, [(.int .u8 0)], (.int .u8)⟩ := rfl
@[go_sem] theorem look207 : look tab 207 = some ⟨1, 8, [(.pointer none)], .flat⟩ := rfl
@[go_sem] theorem look208 : look tab 208 = some ⟨1, 4, [(.int .i32 0)], (.int .i32)⟩ := rfl
@[go_sem] theorem look209 : look tab 209 = some ⟨1, 4, [(.int .i32 0)], (.int .i32)⟩ := rfl
theorem mixed : Tryd.prog.follows .mixedOrders = true := by kernel_rfl
end Go.TL.YtjhcfmcdllfmpaaDoor
