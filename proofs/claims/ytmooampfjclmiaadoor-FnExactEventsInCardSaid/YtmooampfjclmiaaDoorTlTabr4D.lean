import Derived.Test.YtmooampfjclmiaaDoorTlAttr
import Derived.Test.YtmooampfjclmiaaDoorProg
import Derived.KernelRfl
set_option linter.unusedSimpArgs false
set_option linter.unusedVariables false
namespace Go.TL.YtmooampfjclmiaaDoor
open Go Go.Proofs
theorem tab_cons {P : Program} {t : Nat} {e : TE} {r : Tab} (h : OkT P t e) (k : TabOk P r) : TabOk P ((t, e) :: r) := fun p hp => by
  rcases List.mem_cons.1 hp with rfl | hp
  · exact h
  · exact k p hp
theorem tab_nil {P : Program} : TabOk P [] := fun p hp => by cases hp
def tab : Tab := [(2, ⟨1, 8, [(.int .i64 0)], (.int .i64)⟩), (3, ⟨1, 8, [(.int .i64 0)], (.int .i64)⟩), (4, ⟨1, 1, [(.bool false)], .bool⟩), (5, ⟨1, 1, [(.int .u8 0)], (.int .u8)⟩), (6, ⟨1, 1, [(.int .u8 0)], (.int .u8)⟩), (7, ⟨4, 24, [(.int .i64 0), (.int .i64 0), (.bool false), (.int .u8 0)], (.struct [(2, 0), (3, 1), (4, 2), (6, 3)])⟩), (8, ⟨4, 24, [(.int .i64 0), (.int .i64 0), (.bool false), (.int .u8 0)], (.struct [(2, 0), (3, 1), (4, 2), (6, 3)])⟩), (9, ⟨1, 16, [(.string .empty)], .str⟩), (10, ⟨1, 16, [(.string .empty)], .str⟩), (11, ⟨1, 16, [(.string .empty)], .str⟩), (12, ⟨1, 8, [(.int .u64 0)], (.int .u64)⟩), (13, ⟨2, 24, [(.string .empty), (.int .u64 0)], (.struct [(9, 0), (12, 1)])⟩), (14, ⟨2, 24, [(.string .empty), (.int .u64 0)], (.struct [(9, 0), (12, 1)])⟩), (15, ⟨1, 8, [(.pointer none)], .flat⟩), (16, ⟨1, 8, [(.pointer none)], .flat⟩), (17, ⟨1, 8, [(.pointer none)], .flat⟩), (18, ⟨1, 8, [(.pointer none)], (.struct [(17, 0)])⟩), (19, ⟨1, 8, [(.pointer none)], (.struct [(17, 0)])⟩), (21, ⟨1, 4, [(.int .i32 0)], (.int .i32)⟩), (22, ⟨1, 24, [(.slice none 0 0)], (.slice 47)⟩), (23, ⟨1, 24, [(.slice none 0 0)], (.struct [(22, 0)])⟩), (24, ⟨1, 24, [(.slice none 0 0)], (.struct [(22, 0)])⟩), (28, ⟨1, 24, [(.slice none 0 0)], (.slice 38)⟩), (29, ⟨1, 24, [(.slice none 0 0)], (.struct [(28, 0)])⟩), (30, ⟨1, 24, [(.slice none 0 0)], (.struct [(28, 0)])⟩), (36, ⟨1, 24, [(.slice none 0 0)], (.slice 52)⟩), (37, ⟨1, 24, [(.slice none 0 0)], (.struct [(36, 0)])⟩), (38, ⟨1, 24, [(.slice none 0 0)], (.struct [(36, 0)])⟩), (45, ⟨1, 24, [(.slice none 0 0)], (.slice 59)⟩), (46, ⟨1, 24, [(.slice none 0 0)], (.struct [(45, 0)])⟩), (47, ⟨1, 24, [(.slice none 0 0)], (.struct [(45, 0)])⟩), (51, ⟨4, 40, [(.int .i64 0), (.int .i64 0), (.int .i64 0), (.string .empty)], (.struct [(3, 0), (3, 1), (3, 2), (9, 3)])⟩), (52, ⟨4, 40, [(.int .i64 0), (.int .i64 0), (.int .i64 0), (.string .empty)], (.struct [(3, 0), (3, 1), (3, 2), (9, 3)])⟩), (59, ⟨4, 40, [(.int .i64 0), (.int .i64 0), (.int .i64 0), (.string .empty)], (.struct [(3, 0), (3, 1), (3, 2), (9, 3)])⟩), (60, ⟨1, 24, [(.slice none 0 0)], (.slice 9)⟩), (61, ⟨6, 80, [(.int .i64 0), (.int .i64 0), (.bool false), (.int .i64 0), (.slice none 0 0), (.slice none 0 0)], (.struct [(3, 0), (3, 1), (4, 2), (3, 3), (60, 4), (60, 5)])⟩), (62, ⟨6, 80, [(.int .i64 0), (.int .i64 0), (.bool false), (.int .i64 0), (.slice none 0 0), (.slice none 0 0)], (.struct [(3, 0), (3, 1), (4, 2), (3, 3), (60, 4), (60, 5)])⟩), (73, ⟨1, 24, [(.slice none 0 0)], (.slice 3)⟩), (87, ⟨1, 8, [(.pointer none)], .flat⟩), (102, ⟨1, 8, [(.pointer none)], .flat⟩), (103, ⟨1, 8, [(.int .u64 0)], (.int .u64)⟩), (113, ⟨2, 2, [(.int .u8 0), (.int .u8 0)], (.struct [(5, 0), (5, 1)])⟩), (114, ⟨2, 2, [(.int .u8 0), (.int .u8 0)], (.struct [(5, 0), (5, 1)])⟩), (120, ⟨4, 40, [(.pointer none), (.pointer none), (.pointer none), (.string .empty)], (.struct [(17, 0), (17, 1), (17, 2), (9, 3)])⟩), (121, ⟨4, 40, [(.pointer none), (.pointer none), (.pointer none), (.string .empty)], (.struct [(17, 0), (17, 1), (17, 2), (9, 3)])⟩), (123, ⟨0, 0, [], (.struct [(122, 0)])⟩), (124, ⟨0, 0, [], (.struct [(122, 0)])⟩), (126, ⟨1, 4, [(.int .u32 0)], (.int .u32)⟩), (127, ⟨1, 1, [(.int .u8 0)], (.int .u8)⟩), (128, ⟨1, 1, [(.int .u8 0)], (.int .u8)⟩), (130, ⟨1, 8, [(.pointer none)], .flat⟩), (131, ⟨1, 4, [(.int .i32 0)], (.int .i32)⟩), (132, ⟨1, 4, [(.int .i32 0)], (.int .i32)⟩)]
theorem ok2 : OkT Tryd.prog 2 ⟨1, 8, [(.int .i64 0)], (.int .i64)⟩ := ⟨by kernel_rfl, by kernel_rfl⟩
theorem ok3 : OkT Tryd.prog 3 ⟨1, 8, [(.int .i64 0)], (.int .i64)⟩ := ⟨by kernel_rfl, by kernel_rfl⟩
theorem ok4 : OkT Tryd.prog 4 ⟨1, 1, [(.bool false)], .bool⟩ := ⟨by kernel_rfl, by kernel_rfl⟩
theorem ok5 : OkT Tryd.prog 5 ⟨1, 1, [(.int .u8 0)], (.int .u8)⟩ := ⟨by kernel_rfl, by kernel_rfl⟩
theorem ok6 : OkT Tryd.prog 6 ⟨1, 1, [(.int .u8 0)], (.int .u8)⟩ := ⟨by kernel_rfl, by kernel_rfl⟩
theorem ok7 : OkT Tryd.prog 7 ⟨4, 24, [(.int .i64 0), (.int .i64 0), (.bool false), (.int .u8 0)], (.struct [(2, 0), (3, 1), (4, 2), (6, 3)])⟩ := ⟨by kernel_rfl, by kernel_rfl⟩
theorem ok8 : OkT Tryd.prog 8 ⟨4, 24, [(.int .i64 0), (.int .i64 0), (.bool false), (.int .u8 0)], (.struct [(2, 0), (3, 1), (4, 2), (6, 3)])⟩ := ⟨by kernel_rfl, by kernel_rfl⟩
theorem ok9 : OkT Tryd.prog 9 ⟨1, 16, [(.string .empty)], .str⟩ := ⟨by kernel_rfl, by kernel_rfl⟩
theorem ok10 : OkT Tryd.prog 10 ⟨1, 16, [(.string .empty)], .str⟩ := ⟨by kernel_rfl, by kernel_rfl⟩
theorem ok11 : OkT Tryd.prog 11 ⟨1, 16, [(.string .empty)], .str⟩ := ⟨by kernel_rfl, by kernel_rfl⟩
theorem ok12 : OkT Tryd.prog 12 ⟨1, 8, [(.int .u64 0)], (.int .u64)⟩ := ⟨by kernel_rfl, by kernel_rfl⟩
theorem ok13 : OkT Tryd.prog 13 ⟨2, 24, [(.string .empty), (.int .u64 0)], (.struct [(9, 0), (12, 1)])⟩ := ⟨by kernel_rfl, by kernel_rfl⟩
theorem ok14 : OkT Tryd.prog 14 ⟨2, 24, [(.string .empty), (.int .u64 0)], (.struct [(9, 0), (12, 1)])⟩ := ⟨by kernel_rfl, by kernel_rfl⟩
theorem ok15 : OkT Tryd.prog 15 ⟨1, 8, [(.pointer none)], .flat⟩ := ⟨by kernel_rfl, by kernel_rfl⟩
theorem ok16 : OkT Tryd.prog 16 ⟨1, 8, [(.pointer none)], .flat⟩ := ⟨by kernel_rfl, by kernel_rfl⟩
theorem ok17 : OkT Tryd.prog 17 ⟨1, 8, [(.pointer none)], .flat⟩ := ⟨by kernel_rfl, by kernel_rfl⟩
theorem ok18 : OkT Tryd.prog 18 ⟨1, 8, [(.pointer none)], (.struct [(17, 0)])⟩ := ⟨by kernel_rfl, by kernel_rfl⟩
theorem ok19 : OkT Tryd.prog 19 ⟨1, 8, [(.pointer none)], (.struct [(17, 0)])⟩ := ⟨by kernel_rfl, by kernel_rfl⟩
theorem ok21 : OkT Tryd.prog 21 ⟨1, 4, [(.int .i32 0)], (.int .i32)⟩ := ⟨by kernel_rfl, by kernel_rfl⟩
theorem ok22 : OkT Tryd.prog 22 ⟨1, 24, [(.slice none 0 0)], (.slice 47)⟩ := ⟨by kernel_rfl, by kernel_rfl⟩
theorem ok23 : OkT Tryd.prog 23 ⟨1, 24, [(.slice none 0 0)], (.struct [(22, 0)])⟩ := ⟨by kernel_rfl, by kernel_rfl⟩
theorem ok24 : OkT Tryd.prog 24 ⟨1, 24, [(.slice none 0 0)], (.struct [(22, 0)])⟩ := ⟨by kernel_rfl, by kernel_rfl⟩
theorem ok28 : OkT Tryd.prog 28 ⟨1, 24, [(.slice none 0 0)], (.slice 38)⟩ := ⟨by kernel_rfl, by kernel_rfl⟩
theorem ok29 : OkT Tryd.prog 29 ⟨1, 24, [(.slice none 0 0)], (.struct [(28, 0)])⟩ := ⟨by kernel_rfl, by kernel_rfl⟩
theorem ok30 : OkT Tryd.prog 30 ⟨1, 24, [(.slice none 0 0)], (.struct [(28, 0)])⟩ := ⟨by kernel_rfl, by kernel_rfl⟩
theorem ok36 : OkT Tryd.prog 36 ⟨1, 24, [(.slice none 0 0)], (.slice 52)⟩ := ⟨by kernel_rfl, by kernel_rfl⟩
theorem ok37 : OkT Tryd.prog 37 ⟨1, 24, [(.slice none 0 0)], (.struct [(36, 0)])⟩ := ⟨by kernel_rfl, by kernel_rfl⟩
theorem ok38 : OkT Tryd.prog 38 ⟨1, 24, [(.slice none 0 0)], (.struct [(36, 0)])⟩ := ⟨by kernel_rfl, by kernel_rfl⟩
theorem ok45 : OkT Tryd.prog 45 ⟨1, 24, [(.slice none 0 0)], (.slice 59)⟩ := ⟨by kernel_rfl, by kernel_rfl⟩
theorem ok46 : OkT Tryd.prog 46 ⟨1, 24, [(.slice none 0 0)], (.struct [(45, 0)])⟩ := ⟨by kernel_rfl, by kernel_rfl⟩
theorem ok47 : OkT Tryd.prog 47 ⟨1, 24, [(.slice none 0 0)], (.struct [(45, 0)])⟩ := ⟨by kernel_rfl, by kernel_rfl⟩
theorem ok51 : OkT Tryd.prog 51 ⟨4, 40, [(.int .i64 0), (.int .i64 0), (.int .i64 0), (.string .empty)], (.struct [(3, 0), (3, 1), (3, 2), (9, 3)])⟩ := ⟨by kernel_rfl, by kernel_rfl⟩
theorem ok52 : OkT Tryd.prog 52 ⟨4, 40, [(.int .i64 0), (.int .i64 0), (.int .i64 0), (.string .empty)], (.struct [(3, 0), (3, 1), (3, 2), (9, 3)])⟩ := ⟨by kernel_rfl, by kernel_rfl⟩
theorem ok59 : OkT Tryd.prog 59 ⟨4, 40, [(.int .i64 0), (.int .i64 0), (.int .i64 0), (.string .empty)], (.struct [(3, 0), (3, 1), (3, 2), (9, 3)])⟩ := ⟨by kernel_rfl, by kernel_rfl⟩
theorem ok60 : OkT Tryd.prog 60 ⟨1, 24, [(.slice none 0 0)], (.slice 9)⟩ := ⟨by kernel_rfl, by kernel_rfl⟩
theorem ok61 : OkT Tryd.prog 61 ⟨6, 80, [(.int .i64 0), (.int .i64 0), (.bool false), (.int .i64 0), (.slice none 0 0), (.slice none 0 0)], (.struct [(3, 0), (3, 1), (4, 2), (3, 3), (60, 4), (60, 5)])⟩ := ⟨by kernel_rfl, by kernel_rfl⟩
theorem ok62 : OkT Tryd.prog 62 ⟨6, 80, [(.int .i64 0), (.int .i64 0), (.bool false), (.int .i64 0), (.slice none 0 0), (.slice none 0 0)], (.struct [(3, 0), (3, 1), (4, 2), (3, 3), (60, 4), (60, 5)])⟩ := ⟨by kernel_rfl, by kernel_rfl⟩
theorem ok73 : OkT Tryd.prog 73 ⟨1, 24, [(.slice none 0 0)], (.slice 3)⟩ := ⟨by kernel_rfl, by kernel_rfl⟩
theorem ok87 : OkT Tryd.prog 87 ⟨1, 8, [(.pointer none)], .flat⟩ := ⟨by kernel_rfl, by kernel_rfl⟩
theorem ok102 : OkT Tryd.prog 102 ⟨1, 8, [(.pointer none)], .flat⟩ := ⟨by kernel_rfl, by kernel_rfl⟩
theorem ok103 : OkT Tryd.prog 103 ⟨1, 8, [(.int .u64 0)], (.int .u64)⟩ := ⟨by kernel_rfl, by kernel_rfl⟩
theorem ok113 : OkT Tryd.prog 113 ⟨2, 2, [(.int .u8 0), (.int .u8 0)], (.struct [(5, 0), (5, 1)])⟩ := ⟨by kernel_rfl, by kernel_rfl⟩
theorem ok114 : OkT Tryd.prog 114 ⟨2, 2, [(.int .u8 0), (.int .u8 0)], (.struct [(5, 0), (5, 1)])⟩ := ⟨by kernel_rfl, by kernel_rfl⟩
theorem ok120 : OkT Tryd.prog 120 ⟨4, 40, [(.pointer none), (.pointer none), (.pointer none), (.string .empty)], (.struct [(17, 0), (17, 1), (17, 2), (9, 3)])⟩ := ⟨by kernel_rfl, by kernel_rfl⟩
theorem ok121 : OkT Tryd.prog 121 ⟨4, 40, [(.pointer none), (.pointer none), (.pointer none), (.string .empty)], (.struct [(17, 0), (17, 1), (17, 2), (9, 3)])⟩ := ⟨by kernel_rfl, by kernel_rfl⟩
theorem ok123 : OkT Tryd.prog 123 ⟨0, 0, [], (.struct [(122, 0)])⟩ := ⟨by kernel_rfl, by kernel_rfl⟩
theorem ok124 : OkT Tryd.prog 124 ⟨0, 0, [], (.struct [(122, 0)])⟩ := ⟨by kernel_rfl, by kernel_rfl⟩
theorem ok126 : OkT Tryd.prog 126 ⟨1, 4, [(.int .u32 0)], (.int .u32)⟩ := ⟨by kernel_rfl, by kernel_rfl⟩
theorem ok127 : OkT Tryd.prog 127 ⟨1, 1, [(.int .u8 0)], (.int .u8)⟩ := ⟨by kernel_rfl, by kernel_rfl⟩
theorem ok128 : OkT Tryd.prog 128 ⟨1, 1, [(.int .u8 0)], (.int .u8)⟩ := ⟨by kernel_rfl, by kernel_rfl⟩
theorem ok130 : OkT Tryd.prog 130 ⟨1, 8, [(.pointer none)], .flat⟩ := ⟨by kernel_rfl, by kernel_rfl⟩
theorem ok131 : OkT Tryd.prog 131 ⟨1, 4, [(.int .i32 0)], (.int .i32)⟩ := ⟨by kernel_rfl, by kernel_rfl⟩
theorem ok132 : OkT Tryd.prog 132 ⟨1, 4, [(.int .i32 0)], (.int .i32)⟩ := ⟨by kernel_rfl, by kernel_rfl⟩
theorem tab_ok : TabOk Tryd.prog tab := tab_cons ok2 <| tab_cons ok3 <| tab_cons ok4 <| tab_cons ok5 <| tab_cons ok6 <| tab_cons ok7 <| tab_cons ok8 <| tab_cons ok9 <| tab_cons ok10 <| tab_cons ok11 <| tab_cons ok12 <| tab_cons ok13 <| tab_cons ok14 <| tab_cons ok15 <| tab_cons ok16 <| tab_cons ok17 <| tab_cons ok18 <| tab_cons ok19 <| tab_cons ok21 <| tab_cons ok22 <| tab_cons ok23 <| tab_cons ok24 <| tab_cons ok28 <| tab_cons ok29 <| tab_cons ok30 <| tab_cons ok36 <| tab_cons ok37 <| tab_cons ok38 <| tab_cons ok45 <| tab_cons ok46 <| tab_cons ok47 <| tab_cons ok51 <| tab_cons ok52 <| tab_cons ok59 <| tab_cons ok60 <| tab_cons ok61 <| tab_cons ok62 <| tab_cons ok73 <| tab_cons ok87 <| tab_cons ok102 <| tab_cons ok103 <| tab_cons ok113 <| tab_cons ok114 <| tab_cons ok120 <| tab_cons ok121 <| tab_cons ok123 <| tab_cons ok124 <| tab_cons ok126 <| tab_cons ok127 <| tab_cons ok128 <| tab_cons ok130 <| tab_cons ok131 <| tab_cons ok132 <| tab_nil
@[go_sem] theorem look2 : look tab 2 = some ⟨1, 8, [(.int .i64 0)], (.int .i64)⟩ := rfl
@[go_sem] theorem look3 : look tab 3 = some ⟨1, 8, [(.int .i64 0)], (.int .i64)⟩ := rfl
@[go_sem] theorem look4 : look tab 4 = some ⟨1, 1, [(.bool false)], .bool⟩ := rfl
@[go_sem] theorem look5 : look tab 5 = some ⟨1, 1, [(.int .u8 0)], (.int .u8)⟩ := rfl
@[go_sem] theorem look6 : look tab 6 = some ⟨1, 1, [(.int .u8 0)], (.int .u8)⟩ := rfl
@[go_sem] theorem look7 : look tab 7 = some ⟨4, 24, [(.int .i64 0), (.int .i64 0), (.bool false), (.int .u8 0)], (.struct [(2, 0), (3, 1), (4, 2), (6, 3)])⟩ := rfl
@[go_sem] theorem look8 : look tab 8 = some ⟨4, 24, [(.int .i64 0), (.int .i64 0), (.bool false), (.int .u8 0)], (.struct [(2, 0), (3, 1), (4, 2), (6, 3)])⟩ := rfl
@[go_sem] theorem look9 : look tab 9 = some ⟨1, 16, [(.string .empty)], .str⟩ := rfl
@[go_sem] theorem look10 : look tab 10 = some ⟨1, 16, [(.string .empty)], .str⟩ := rfl
@[go_sem] theorem look11 : look tab 11 = some ⟨1, 16, [(.string .empty)], .str⟩ := rfl
@[go_sem] theorem look12 : look tab 12 = some ⟨1, 8, [(.int .u64 0)], (.int .u64)⟩ := rfl
@[go_sem] theorem look13 : look tab 13 = some ⟨2, 24, [(.string .empty), (.int .u64 0)], (.struct [(9, 0), (12, 1)])⟩ := rfl
@[go_sem] theorem look14 : look tab 14 = some ⟨2, 24, [(.string .empty), (.int .u64 0)], (.struct [(9, 0), (12, 1)])⟩ := rfl
@[go_sem] theorem look15 : look tab 15 = some ⟨1, 8, [(.pointer none)], .flat⟩ := rfl
@[go_sem] theorem look16 : look tab 16 = some ⟨1, 8, [(.pointer none)], .flat⟩ := rfl
@[go_sem] theorem look17 : look tab 17 = some ⟨1, 8, [(.pointer none)], .flat⟩ := rfl
@[go_sem] theorem look18 : look tab 18 = some ⟨1, 8, [(.pointer none)], (.struct [(17, 0)])⟩ := rfl
@[go_sem] theorem look19 : look tab 19 = some ⟨1, 8, [(.pointer none)], (.struct [(17, 0)])⟩ := rfl
@[go_sem] theorem look21 : look tab 21 = some ⟨1, 4, [(.int .i32 0)], (.int .i32)⟩ := rfl
@[go_sem] theorem look22 : look tab 22 = some ⟨1, 24, [(.slice none 0 0)], (.slice 47)⟩ := rfl
@[go_sem] theorem look23 : look tab 23 = some ⟨1, 24, [(.slice none 0 0)], (.struct [(22, 0)])⟩ := rfl
@[go_sem] theorem look24 : look tab 24 = some ⟨1, 24, [(.slice none 0 0)], (.struct [(22, 0)])⟩ := rfl
@[go_sem] theorem look28 : look tab 28 = some ⟨1, 24, [(.slice none 0 0)], (.slice 38)⟩ := rfl
@[go_sem] theorem look29 : look tab 29 = some ⟨1, 24, [(.slice none 0 0)], (.struct [(28, 0)])⟩ := rfl
@[go_sem] theorem look30 : look tab 30 = some ⟨1, 24, [(.slice none 0 0)], (.struct [(28, 0)])⟩ := rfl
@[go_sem] theorem look36 : look tab 36 = some ⟨1, 24, [(.slice none 0 0)], (.slice 52)⟩ := rfl
@[go_sem] theorem look37 : look tab 37 = some ⟨1, 24, [(.slice none 0 0)], (.struct [(36, 0)])⟩ := rfl
@[go_sem] theorem look38 : look tab 38 = some ⟨1, 24, [(.slice none 0 0)], (.struct [(36, 0)])⟩ := rfl
@[go_sem] theorem look45 : look tab 45 = some ⟨1, 24, [(.slice none 0 0)], (.slice 59)⟩ := rfl
@[go_sem] theorem look46 : look tab 46 = some ⟨1, 24, [(.slice none 0 0)], (.struct [(45, 0)])⟩ := rfl
@[go_sem] theorem look47 : look tab 47 = some ⟨1, 24, [(.slice none 0 0)], (.struct [(45, 0)])⟩ := rfl
@[go_sem] theorem look51 : look tab 51 = some ⟨4, 40, [(.int .i64 0), (.int .i64 0), (.int .i64 0), (.string .empty)], (.struct [(3, 0), (3, 1), (3, 2), (9, 3)])⟩ := rfl
@[go_sem] theorem look52 : look tab 52 = some ⟨4, 40, [(.int .i64 0), (.int .i64 0), (.int .i64 0), (.string .empty)], (.struct [(3, 0), (3, 1), (3, 2), (9, 3)])⟩ := rfl
@[go_sem] theorem look59 : look tab 59 = some ⟨4, 40, [(.int .i64 0), (.int .i64 0), (.int .i64 0), (.string .empty)], (.struct [(3, 0), (3, 1), (3, 2), (9, 3)])⟩ := rfl
@[go_sem] theorem look60 : look tab 60 = some ⟨1, 24, [(.slice none 0 0)], (.slice 9)⟩ := rfl
@[go_sem] theorem look61 : look tab 61 = some ⟨6, 80, [(.int .i64 0), (.int .i64 0), (.bool false), (.int .i64 0), (.slice none 0 0), (.slice none 0 0)], (.struct [(3, 0), (3, 1), (4, 2), (3, 3), (60, 4), (60, 5)])⟩ := rfl
@[go_sem] theorem look62 : look tab 62 = some ⟨6, 80, [(.int .i64 0), (.int .i64 0), (.bool false), (.int .i64 0), (.slice none 0 0), (.slice none 0 0)], (.struct [(3, 0), (3, 1), (4, 2), (3, 3), (60, 4), (60, 5)])⟩ := rfl
@[go_sem] theorem look73 : look tab 73 = some ⟨1, 24, [(.slice none 0 0)], (.slice 3)⟩ := rfl
@[go_sem] theorem look87 : look tab 87 = some ⟨1, 8, [(.pointer none)], .flat⟩ := rfl
@[go_sem] theorem look102 : look tab 102 = some ⟨1, 8, [(.pointer none)], .flat⟩ := rfl
@[go_sem] theorem look103 : look tab 103 = some ⟨1, 8, [(.int .u64 0)], (.int .u64)⟩ := rfl
@[go_sem] theorem look113 : look tab 113 = some ⟨2, 2, [(.int .u8 0), (.int .u8 0)], (.struct [(5, 0), (5, 1)])⟩ := rfl
@[go_sem] theorem look114 : look tab 114 = some ⟨2, 2, [(.int .u8 0), (.int .u8 0)], (.struct [(5, 0), (5, 1)])⟩ := rfl
@[go_sem] theorem look120 : look tab 120 = some ⟨4, 40, [(.pointer none), (.pointer none), (.pointer none), (.string .empty)], (.struct [(17, 0), (17, 1), (17, 2), (9, 3)])⟩ := rfl
@[go_sem] theorem look121 : look tab 121 = some ⟨4, 40, [(.pointer none), (.pointer none), (.pointer none), (.string .empty)], (.struct [(17, 0), (17, 1), (17, 2), (9, 3)])⟩ := rfl
@[go_sem] theorem look123 : look tab 123 = some ⟨0, 0, [], (.struct [(122, 0)])⟩ := rfl
@[go_sem] theorem look124 : look tab 124 = some ⟨0, 0, [], (.struct [(122, 0)])⟩ := rfl
@[go_sem] theorem look126 : look tab 126 = some ⟨1, 4, [(.int .u32 0)], (.int .u32)⟩ := rfl
@[go_sem] theorem look127 : look tab 127 = some ⟨1, 1, [(.int .u8 0)], (.int .u8)⟩ := rfl
@[go_sem] theorem look128 : look tab 128 = some ⟨1, 1, [(.int .u8 0)], (.int .u8)⟩ := rfl
@[go_sem] theorem look130 : look tab 130 = some ⟨1, 8, [(.pointer none)], .flat⟩ := rfl
@[go_sem] theorem look131 : look tab 131 = some ⟨1, 4, [(.int .i32 0)], (.int .i32)⟩ := rfl
@[go_sem] theorem look132 : look tab 132 = some ⟨1, 4, [(.int .i32 0)], (.int .i32)⟩ := rfl
theorem mixed : Tryd.prog.follows .mixedOrders = true := by kernel_rfl
end Go.TL.YtmooampfjclmiaaDoor
