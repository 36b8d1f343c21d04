import Derived.Test.YtoabnifimfcbcaaDoorTlAttr
import Derived.Test.YtoabnifimfcbcaaDoorProg
import Derived.KernelRfl
set_option linter.unusedSimpArgs false
set_option linter.unusedVariables false
namespace Go.TL.YtoabnifimfcbcaaDoor
open Go Go.Proofs
theorem tab_cons {P : Program} {t : Nat} {e : TE} {r : Tab} (h : OkT P t e) (k : TabOk P r) : TabOk P ((t, e) :: r) := fun p hp => by
  rcases List.mem_cons.1 hp with rfl | hp
  · exact h
  · exact k p hp
theorem tab_nil {P : Program} : TabOk P [] := fun p hp => by cases hp
def tab : Tab := [(2, ⟨1, 8, [(.int .i64 0)], (.int .i64)⟩), (3, ⟨1, 8, [(.int .i64 0)], (.int .i64)⟩), (4, ⟨1, 1, [(.bool false)], .bool⟩), (5, ⟨1, 1, [(.int .u8 0)], (.int .u8)⟩), (6, ⟨1, 1, [(.int .u8 0)], (.int .u8)⟩), (7, ⟨4, 24, [(.int .i64 0), (.int .i64 0), (.bool false), (.int .u8 0)], (.struct [(2, 0), (3, 1), (4, 2), (6, 3)])⟩), (8, ⟨4, 24, [(.int .i64 0), (.int .i64 0), (.bool false), (.int .u8 0)], (.struct [(2, 0), (3, 1), (4, 2), (6, 3)])⟩), (9, ⟨1, 16, [(.string .empty)], .str⟩), (10, ⟨1, 16, [(.string .empty)], .str⟩), (11, ⟨1, 16, [(.string .empty)], .str⟩), (12, ⟨1, 8, [(.int .u64 0)], (.int .u64)⟩), (13, ⟨2, 24, [(.string .empty), (.int .u64 0)], (.struct [(9, 0), (12, 1)])⟩), (14, ⟨2, 24, [(.string .empty), (.int .u64 0)], (.struct [(9, 0), (12, 1)])⟩), (15, ⟨1, 8, [(.pointer none)], .flat⟩), (16, ⟨1, 8, [(.pointer none)], .flat⟩), (17, ⟨1, 8, [(.pointer none)], .flat⟩), (18, ⟨1, 8, [(.pointer none)], (.struct [(17, 0)])⟩), (19, ⟨1, 8, [(.pointer none)], (.struct [(17, 0)])⟩), (21, ⟨1, 4, [(.int .i32 0)], (.int .i32)⟩), (22, ⟨1, 24, [(.slice none 0 0)], (.slice 55)⟩), (25, ⟨1, 24, [(.slice none 0 0)], (.slice 56)⟩), (39, ⟨1, 24, [(.slice none 0 0)], (.slice 71)⟩), (42, ⟨1, 24, [(.slice none 0 0)], (.slice 75)⟩), (46, ⟨1, 24, [(.slice none 0 0)], (.slice 9)⟩), (54, ⟨3, 40, [(.string .empty), (.int .i64 0), (.string .empty)], (.struct [(9, 0), (3, 1), (9, 2)])⟩), (55, ⟨3, 40, [(.string .empty), (.int .i64 0), (.string .empty)], (.struct [(9, 0), (3, 1), (9, 2)])⟩), (56, ⟨3, 40, [(.string .empty), (.int .i64 0), (.string .empty)], (.struct [(9, 0), (3, 1), (9, 2)])⟩), (70, ⟨4, 40, [(.int .i64 0), (.int .i64 0), (.int .i64 0), (.string .empty)], (.struct [(3, 0), (3, 1), (3, 2), (9, 3)])⟩), (71, ⟨4, 40, [(.int .i64 0), (.int .i64 0), (.int .i64 0), (.string .empty)], (.struct [(3, 0), (3, 1), (3, 2), (9, 3)])⟩), (75, ⟨4, 40, [(.int .i64 0), (.int .i64 0), (.int .i64 0), (.string .empty)], (.struct [(3, 0), (3, 1), (3, 2), (9, 3)])⟩), (79, ⟨6, 80, [(.int .i64 0), (.int .i64 0), (.bool false), (.int .i64 0), (.slice none 0 0), (.slice none 0 0)], (.struct [(3, 0), (3, 1), (4, 2), (3, 3), (46, 4), (46, 5)])⟩), (80, ⟨6, 80, [(.int .i64 0), (.int .i64 0), (.bool false), (.int .i64 0), (.slice none 0 0), (.slice none 0 0)], (.struct [(3, 0), (3, 1), (4, 2), (3, 3), (46, 4), (46, 5)])⟩), (89, ⟨1, 24, [(.slice none 0 0)], (.slice 5)⟩), (100, ⟨1, 8, [(.pointer none)], .flat⟩), (101, ⟨1, 24, [(.slice none 0 0)], (.slice 3)⟩), (116, ⟨1, 8, [(.pointer none)], .flat⟩), (125, ⟨1, 8, [(.int .u64 0)], (.int .u64)⟩), (126, ⟨2, 2, [(.int .u8 0), (.int .u8 0)], (.struct [(5, 0), (5, 1)])⟩), (127, ⟨2, 2, [(.int .u8 0), (.int .u8 0)], (.struct [(5, 0), (5, 1)])⟩), (136, ⟨4, 40, [(.pointer none), (.pointer none), (.pointer none), (.string .empty)], (.struct [(17, 0), (17, 1), (17, 2), (9, 3)])⟩), (137, ⟨4, 40, [(.pointer none), (.pointer none), (.pointer none), (.string .empty)], (.struct [(17, 0), (17, 1), (17, 2), (9, 3)])⟩), (139, ⟨0, 0, [], (.struct [(138, 0)])⟩), (140, ⟨0, 0, [], (.struct [(138, 0)])⟩), (142, ⟨1, 4, [(.int .u32 0)], (.int .u32)⟩), (143, ⟨1, 1, [(.int .u8 0)], (.int .u8)⟩), (144, ⟨1, 1, [(.int .u8 0)], (.int .u8)⟩), (146, ⟨1, 8, [(.pointer none)], .flat⟩), (147, ⟨1, 4, [(.int .i32 0)], (.int .i32)⟩), (148, ⟨1, 4, [(.int .i32 0)], (.int .i32)⟩)]
theorem ok2 : OkT Tryd.prog 2 ⟨1, 8, [(.int .i64 0)], (.int .i64)⟩ := ⟨by kernel_rfl, by kernel_rfl⟩
theorem ok3 : OkT Tryd.prog 3 ⟨1, 8, [(.int .i64 0)], (.int .i64)⟩ := ⟨by kernel_rfl, by kernel_rfl⟩
theorem ok4 : OkT Tryd.prog 4 ⟨1, 1, [(.bool false)], .bool⟩ := ⟨by kernel_rfl, by kernel_rfl⟩
theorem ok5 : OkT Tryd.prog 5 ⟨1, 1, [(.int .u8 0)], (.int .u8)⟩ := ⟨by kernel_rfl, by kernel_rfl⟩
theorem ok6 : OkT Tryd.prog 6 ⟨1, 1, [(.int .u8 0)], (.int .u8)⟩ := ⟨by kernel_rfl, by kernel_rfl⟩
theorem ok7 : OkT Tryd.prog 7 ⟨4, 24, [(.int .i64 0), (.int .i64 0), (.bool false), (.int .u8 0)], (.struct [(2, 0), (3, 1), (4, 2), (6, 3)])⟩ := ⟨by kernel_rfl, by kernel_rfl⟩
theorem ok8 : OkT Tryd.prog 8 ⟨4, 24, [(.int .i64 0), (.int .i64 0), (.bool false), (.int .u8 0)], (.struct [(2, 0), (3, 1), (4, 2), (6, 3)])⟩ := ⟨by kernel_rfl, by kernel_rfl⟩
theorem ok9 : OkT Tryd.prog 9 ⟨1, 16, [(.string .empty)], .str⟩ := ⟨by kernel_rfl, by kernel_rfl⟩
theorem ok10 : OkT Tryd.prog 10 ⟨1, 16, [(.string .empty)], .str⟩ := ⟨by kernel_rfl, by kernel_rfl⟩
theorem ok11 : OkT Tryd.prog 11 ⟨1, 16, [(.string .empty)], .str⟩ := ⟨by kernel_rfl, by kernel_rfl⟩
theorem ok12 : OkT Tryd.prog 12 ⟨1, 8, [(.int .u64 0)], (.int .u64)⟩ := ⟨by kernel_rfl, by kernel_rfl⟩
theorem ok13 : OkT Tryd.prog 13 ⟨2, 24, [(.string .empty), (.int .u64 0)], (.struct [(9, 0), (12, 1)])⟩ := ⟨by kernel_rfl, by kernel_rfl⟩
theorem ok14 : OkT Tryd.prog 14 ⟨2, 24, [(.string .empty), (.int .u64 0)], (.struct [(9, 0), (12, 1)])⟩ := ⟨by kernel_rfl, by kernel_rfl⟩
theorem ok15 : OkT Tryd.prog 15 ⟨1, 8, [(.pointer none)], .flat⟩ := ⟨by kernel_rfl, by kernel_rfl⟩
theorem ok16 : OkT Tryd.prog 16 ⟨1, 8, [(.pointer none)], .flat⟩ := ⟨by kernel_rfl, by kernel_rfl⟩
theorem ok17 : OkT Tryd.prog 17 ⟨1, 8, [(.pointer none)], .flat⟩ := ⟨by kernel_rfl, by kernel_rfl⟩
theorem ok18 : OkT Tryd.prog 18 ⟨1, 8, [(.pointer none)], (.struct [(17, 0)])⟩ := ⟨by kernel_rfl, by kernel_rfl⟩
theorem ok19 : OkT Tryd.prog 19 ⟨1, 8, [(.pointer none)], (.struct [(17, 0)])⟩ := ⟨by kernel_rfl, by kernel_rfl⟩
theorem ok21 : OkT Tryd.prog 21 ⟨1, 4, [(.int .i32 0)], (.int .i32)⟩ := ⟨by kernel_rfl, by kernel_rfl⟩
theorem ok22 : OkT Tryd.prog 22 ⟨1, 24, [(.slice none 0 0)], (.slice 55)⟩ := ⟨by kernel_rfl, by kernel_rfl⟩
theorem ok25 : OkT Tryd.prog 25 ⟨1, 24, [(.slice none 0 0)], (.slice 56)⟩ := ⟨by kernel_rfl, by kernel_rfl⟩
theorem ok39 : OkT Tryd.prog 39 ⟨1, 24, [(.slice none 0 0)], (.slice 71)⟩ := ⟨by kernel_rfl, by kernel_rfl⟩
theorem ok42 : OkT Tryd.prog 42 ⟨1, 24, [(.slice none 0 0)], (.slice 75)⟩ := ⟨by kernel_rfl, by kernel_rfl⟩
theorem ok46 : OkT Tryd.prog 46 ⟨1, 24, [(.slice none 0 0)], (.slice 9)⟩ := ⟨by kernel_rfl, by kernel_rfl⟩
theorem ok54 : OkT Tryd.prog 54 ⟨3, 40, [(.string .empty), (.int .i64 0), (.string .empty)], (.struct [(9, 0), (3, 1), (9, 2)])⟩ := ⟨by kernel_rfl, by kernel_rfl⟩
theorem ok55 : OkT Tryd.prog 55 ⟨3, 40, [(.string .empty), (.int .i64 0), (.string .empty)], (.struct [(9, 0), (3, 1), (9, 2)])⟩ := ⟨by kernel_rfl, by kernel_rfl⟩
theorem ok56 : OkT Tryd.prog 56 ⟨3, 40, [(.string .empty), (.int .i64 0), (.string .empty)], (.struct [(9, 0), (3, 1), (9, 2)])⟩ := ⟨by kernel_rfl, by kernel_rfl⟩
theorem ok70 : OkT Tryd.prog 70 ⟨4, 40, [(.int .i64 0), (.int .i64 0), (.int .i64 0), (.string .empty)], (.struct [(3, 0), (3, 1), (3, 2), (9, 3)])⟩ := ⟨by kernel_rfl, by kernel_rfl⟩
theorem ok71 : OkT Tryd.prog 71 ⟨4, 40, [(.int .i64 0), (.int .i64 0), (.int .i64 0), (.string .empty)], (.struct [(3, 0), (3, 1), (3, 2), (9, 3)])⟩ := ⟨by kernel_rfl, by kernel_rfl⟩
theorem ok75 : OkT Tryd.prog 75 ⟨4, 40, [(.int .i64 0), (.int .i64 0), (.int .i64 0), (.string .empty)], (.struct [(3, 0), (3, 1), (3, 2), (9, 3)])⟩ := ⟨by kernel_rfl, by kernel_rfl⟩
theorem ok79 : OkT Tryd.prog 79 ⟨6, 80, [(.int .i64 0), (.int .i64 0), (.bool false), (.int .i64 0), (.slice none 0 0), (.slice none 0 0)], (.struct [(3, 0), (3, 1), (4, 2), (3, 3), (46, 4), (46, 5)])⟩ := ⟨by kernel_rfl, by kernel_rfl⟩
theorem ok80 : OkT Tryd.prog 80 ⟨6, 80, [(.int .i64 0), (.int .i64 0), (.bool false), (.int .i64 0), (.slice none 0 0), (.slice none 0 0)], (.struct [(3, 0), (3, 1), (4, 2), (3, 3), (46, 4), (46, 5)])⟩ := ⟨by kernel_rfl, by kernel_rfl⟩
theorem ok89 : OkT Tryd.prog 89 ⟨1, 24, [(.slice none 0 0)], (.slice 5)⟩ := ⟨by kernel_rfl, by kernel_rfl⟩
theorem ok100 : OkT Tryd.prog 100 ⟨1, 8, [(.pointer none)], .flat⟩ := ⟨by kernel_rfl, by kernel_rfl⟩
theorem ok101 : OkT Tryd.prog 101 ⟨1, 24, [(.slice none 0 0)], (.slice 3)⟩ := ⟨by kernel_rfl, by kernel_rfl⟩
theorem ok116 : OkT Tryd.prog 116 ⟨1, 8, [(.pointer none)], .flat⟩ := ⟨by kernel_rfl, by kernel_rfl⟩
theorem ok125 : OkT Tryd.prog 125 ⟨1, 8, [(.int .u64 0)], (.int .u64)⟩ := ⟨by kernel_rfl, by kernel_rfl⟩
theorem ok126 : OkT Tryd.prog 126 ⟨2, 2, [(.int .u8 0), (.int .u8 0)], (.struct [(5, 0), (5, 1)])⟩ := ⟨by kernel_rfl, by kernel_rfl⟩
theorem ok127 : OkT Tryd.prog 127 ⟨2, 2, [(.int .u8 0), (.int .u8 0)], (.struct [(5, 0), (5, 1)])⟩ := ⟨by kernel_rfl, by kernel_rfl⟩
theorem ok136 : OkT Tryd.prog 136 ⟨4, 40, [(.pointer none), (.pointer none), (.pointer none), (.string .empty)], (.struct [(17, 0), (17, 1), (17, 2), (9, 3)])⟩ := ⟨by kernel_rfl, by kernel_rfl⟩
theorem ok137 : OkT Tryd.prog 137 ⟨4, 40, [(.pointer none), (.pointer none), (.pointer none), (.string .empty)], (.struct [(17, 0), (17, 1), (17, 2), (9, 3)])⟩ := ⟨by kernel_rfl, by kernel_rfl⟩
theorem ok139 : OkT Tryd.prog 139 ⟨0, 0, [], (.struct [(138, 0)])⟩ := ⟨by kernel_rfl, by kernel_rfl⟩
theorem ok140 : OkT Tryd.prog 140 ⟨0, 0, [], (.struct [(138, 0)])⟩ := ⟨by kernel_rfl, by kernel_rfl⟩
theorem ok142 : OkT Tryd.prog 142 ⟨1, 4, [(.int .u32 0)], (.int .u32)⟩ := ⟨by kernel_rfl, by kernel_rfl⟩
theorem ok143 : OkT Tryd.prog 143 ⟨1, 1, [(.int .u8 0)], (.int .u8)⟩ := ⟨by kernel_rfl, by kernel_rfl⟩
theorem ok144 : OkT Tryd.prog 144 ⟨1, 1, [(.int .u8 0)], (.int .u8)⟩ := ⟨by kernel_rfl, by kernel_rfl⟩
theorem ok146 : OkT Tryd.prog 146 ⟨1, 8, [(.pointer none)], .flat⟩ := ⟨by kernel_rfl, by kernel_rfl⟩
theorem ok147 : OkT Tryd.prog 147 ⟨1, 4, [(.int .i32 0)], (.int .i32)⟩ := ⟨by kernel_rfl, by kernel_rfl⟩
theorem ok148 : OkT Tryd.prog 148 ⟨1, 4, [(.int .i32 0)], (.int .i32)⟩ := ⟨by kernel_rfl, by kernel_rfl⟩
theorem tab_ok : TabOk Tryd.prog tab := tab_cons ok2 <| tab_cons ok3 <| tab_cons ok4 <| tab_cons ok5 <| tab_cons ok6 <| tab_cons ok7 <| tab_cons ok8 <| tab_cons ok9 <| tab_cons ok10 <| tab_cons ok11 <| tab_cons ok12 <| tab_cons ok13 <| tab_cons ok14 <| tab_cons ok15 <| tab_cons ok16 <| tab_cons ok17 <| tab_cons ok18 <| tab_cons ok19 <| tab_cons ok21 <| tab_cons ok22 <| tab_cons ok25 <| tab_cons ok39 <| tab_cons ok42 <| tab_cons ok46 <| tab_cons ok54 <| tab_cons ok55 <| tab_cons ok56 <| tab_cons ok70 <| tab_cons ok71 <| tab_cons ok75 <| tab_cons ok79 <| tab_cons ok80 <| tab_cons ok89 <| tab_cons ok100 <| tab_cons ok101 <| tab_cons ok116 <| tab_cons ok125 <| tab_cons ok126 <| tab_cons ok127 <| tab_cons ok136 <| tab_cons ok137 <| tab_cons ok139 <| tab_cons ok140 <| tab_cons ok142 <| tab_cons ok143 <| tab_cons ok144 <| tab_cons ok146 <| tab_cons ok147 <| tab_cons ok148 <| tab_nil
@[go_sem] theorem look2 : look tab 2 = some ⟨1, 8, [(.int .i64 0)], (.int .i64)⟩ := rfl
@[go_sem] theorem look3 : look tab 3 = some ⟨1, 8, [(.int .i64 0)], (.int .i64)⟩ := rfl
@[go_sem] theorem look4 : look tab 4 = some ⟨1, 1, [(.bool false)], .bool⟩ := rfl
@[go_sem] theorem look5 : look tab 5 = some ⟨1, 1, [(.int .u8 0)], (.int .u8)⟩ := rfl
@[go_sem] theorem look6 : look tab 6 = some ⟨1, 1, [(.int .u8 0)], (.int .u8)⟩ := rfl
@[go_sem] theorem look7 : look tab 7 = some ⟨4, 24, [(.int .i64 0), (.int .i64 0), (.bool false), (.int .u8 0)], (.struct [(2, 0), (3, 1), (4, 2), (6, 3)])⟩ := rfl
@[go_sem] theorem look8 : look tab 8 = some ⟨4, 24, [(.int .i64 0), (.int .i64 0), (.bool false), (.int .u8 0)], (.struct [(2, 0), (3, 1), (4, 2), (6, 3)])⟩ := rfl
@[go_sem] theorem look9 : look tab 9 = some ⟨1, 16, [(.string .empty)], .str⟩ := rfl
@[go_sem] theorem look10 : look tab 10 = some ⟨1, 16, [(.string .empty)], .str⟩ := rfl
@[go_sem] theorem look11 : look tab 11 = some ⟨1, 16, [(.string .empty)], .str⟩ := rfl
@[go_sem] theorem look12 : look tab 12 = some ⟨1, 8, [(.int .u64 0)], (.int .u64)⟩ := rfl
@[go_sem] theorem look13 : look tab 13 = some ⟨2, 24, [(.string .empty), (.int .u64 0)], (.struct [(9, 0), (12, 1)])⟩ := rfl
@[go_sem] theorem look14 : look tab 14 = some ⟨2, 24, [(.string .empty), (.int .u64 0)], (.struct [(9, 0), (12, 1)])⟩ := rfl
@[go_sem] theorem look15 : look tab 15 = some ⟨1, 8, [(.pointer none)], .flat⟩ := rfl
@[go_sem] theorem look16 : look tab 16 = some ⟨1, 8, [(.pointer none)], .flat⟩ := rfl
@[go_sem] theorem look17 : look tab 17 = some ⟨1, 8, [(.pointer none)], .flat⟩ := rfl
@[go_sem] theorem look18 : look tab 18 = some ⟨1, 8, [(.pointer none)], (.struct [(17, 0)])⟩ := rfl
@[go_sem] theorem look19 : look tab 19 = some ⟨1, 8, [(.pointer none)], (.struct [(17, 0)])⟩ := rfl
@[go_sem] theorem look21 : look tab 21 = some ⟨1, 4, [(.int .i32 0)], (.int .i32)⟩ := rfl
@[go_sem] theorem look22 : look tab 22 = some ⟨1, 24, [(.slice none 0 0)], (.slice 55)⟩ := rfl
@[go_sem] theorem look25 : look tab 25 = some ⟨1, 24, [(.slice none 0 0)], (.slice 56)⟩ := rfl
@[go_sem] theorem look39 : look tab 39 = some ⟨1, 24, [(.slice none 0 0)], (.slice 71)⟩ := rfl
@[go_sem] theorem look42 : look tab 42 = some ⟨1, 24, [(.slice none 0 0)], (.slice 75)⟩ := rfl
@[go_sem] theorem look46 : look tab 46 = some ⟨1, 24, [(.slice none 0 0)], (.slice 9)⟩ := rfl
@[go_sem] theorem look54 : look tab 54 = some ⟨3, 40, [(.string .empty), (.int .i64 0), (.string .empty)], (.struct [(9, 0), (3, 1), (9, 2)])⟩ := rfl
@[go_sem] theorem look55 : look tab 55 = some ⟨3, 40, [(.string .empty), (.int .i64 0), (.string .empty)], (.struct [(9, 0), (3, 1), (9, 2)])⟩ := rfl
@[go_sem] theorem look56 : look tab 56 = some ⟨3, 40, [(.string .empty), (.int .i64 0), (.string .empty)], (.struct [(9, 0), (3, 1), (9, 2)])⟩ := rfl
@[go_sem] theorem look70 : look tab 70 = some ⟨4, 40, [(.int .i64 0), (.int .i64 0), (.int .i64 0), (.string .empty)], (.struct [(3, 0), (3, 1), (3, 2), (9, 3)])⟩ := rfl
@[go_sem] theorem look71 : look tab 71 = some ⟨4, 40, [(.int .i64 0), (.int .i64 0), (.int .i64 0), (.string .empty)], (.struct [(3, 0), (3, 1), (3, 2), (9, 3)])⟩ := rfl
@[go_sem] theorem look75 : look tab 75 = some ⟨4, 40, [(.int .i64 0), (.int .i64 0), (.int .i64 0), (.string .empty)], (.struct [(3, 0), (3, 1), (3, 2), (9, 3)])⟩ := rfl
@[go_sem] theorem look79 : look tab 79 = some ⟨6, 80, [(.int .i64 0), (.int .i64 0), (.bool false), (.int .i64 0), (.slice none 0 0), (.slice none 0 0)], (.struct [(3, 0), (3, 1), (4, 2), (3, 3), (46, 4), (46, 5)])⟩ := rfl
@[go_sem] theorem look80 : look tab 80 = some ⟨6, 80, [(.int .i64 0), (.int .i64 0), (.bool false), (.int .i64 0), (.slice none 0 0), (.slice none 0 0)], (.struct [(3, 0), (3, 1), (4, 2), (3, 3), (46, 4), (46, 5)])⟩ := rfl
@[go_sem] theorem look89 : look tab 89 = some ⟨1, 24, [(.slice none 0 0)], (.slice 5)⟩ := rfl
@[go_sem] theorem look100 : look tab 100 = some ⟨1, 8, [(.pointer none)], .flat⟩ := rfl
@[go_sem] theorem look101 : look tab 101 = some ⟨1, 24, [(.slice none 0 0)], (.slice 3)⟩ := rfl
@[go_sem] theorem look116 : look tab 116 = some ⟨1, 8, [(.pointer none)], .flat⟩ := rfl
@[go_sem] theorem look125 : look tab 125 = some ⟨1, 8, [(.int .u64 0)], (.int .u64)⟩ := rfl
@[go_sem] theorem look126 : look tab 126 = some ⟨2, 2, [(.int .u8 0), (.int .u8 0)], (.struct [(5, 0), (5, 1)])⟩ := rfl
@[go_sem] theorem look127 : look tab 127 = some ⟨2, 2, [(.int .u8 0), (.int .u8 0)], (.struct [(5, 0), (5, 1)])⟩ := rfl
@[go_sem] theorem look136 : look tab 136 = some ⟨4, 40, [(.pointer none), (.pointer none), (.pointer none), (.string .empty)], (.struct [(17, 0), (17, 1), (17, 2), (9, 3)])⟩ := rfl
@[go_sem] theorem look137 : look tab 137 = some ⟨4, 40, [(.pointer none), (.pointer none), (.pointer none), (.string .empty)], (.struct [(17, 0), (17, 1), (17, 2), (9, 3)])⟩ := rfl
@[go_sem] theorem look139 : look tab 139 = some ⟨0, 0, [], (.struct [(138, 0)])⟩ := rfl
@[go_sem] theorem look140 : look tab 140 = some ⟨0, 0, [], (.struct [(138, 0)])⟩ := rfl
@[go_sem] theorem look142 : look tab 142 = some ⟨1, 4, [(.int .u32 0)], (.int .u32)⟩ := rfl
@[go_sem] theorem look143 : look tab 143 = some ⟨1, 1, [(.int .u8 0)], (.int .u8)⟩ := rfl
@[go_sem] theorem look144 : look tab 144 = some ⟨1, 1, [(.int .u8 0)], (.int .u8)⟩ := rfl
@[go_sem] theorem look146 : look tab 146 = some ⟨1, 8, [(.pointer none)], .flat⟩ := rfl
@[go_sem] theorem look147 : look tab 147 = some ⟨1, 4, [(.int .i32 0)], (.int .i32)⟩ := rfl
@[go_sem] theorem look148 : look tab 148 = some ⟨1, 4, [(.int .i32 0)], (.int .i32)⟩ := rfl
theorem mixed : Tryd.prog.follows .mixedOrders = true := by kernel_rfl
end Go.TL.YtoabnifimfcbcaaDoor
