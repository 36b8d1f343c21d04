import Derived.Test.YtjhcfmcdllfmpaaGreatDoorTlAttr
import Derived.Test.YtjhcfmcdllfmpaaGreatDoorProg
import Derived.KernelRfl
set_option linter.unusedSimpArgs false
set_option linter.unusedVariables false
namespace Go.TL.YtjhcfmcdllfmpaaGreatDoor
open Go Go.Proofs
theorem tab_cons {P : Program} {t : Nat} {e : TE} {r : Tab} (h : OkT P t e) (k : TabOk P r) : TabOk P ((t, e) :: r) := fun p hp => by
  rcases List.mem_cons.1 hp with rfl | hp
  · exact h
  · exact k p hp
theorem tab_nil {P : Program} : TabOk P [] := fun p hp => by cases hp
def tab : Tab := [(2, ⟨1, 8, [(.int .i64 0)], (.int .i64)⟩), (3, ⟨1, 8, [(.int .i64 0)], (.int .i64)⟩), (4, ⟨1, 1, [(.bool false)], .bool⟩), (5, ⟨1, 1, [(.int .u8 0)], (.int .u8)⟩), (6, ⟨1, 1, [(.int .u8 0)], (.int .u8)⟩), (7, ⟨4, 24, [(.int .i64 0), (.int .i64 0), (.bool false), (.int .u8 0)], (.struct [(2, 0), (3, 1), (4, 2), (6, 3)])⟩), (8, ⟨4, 24, [(.int .i64 0), (.int .i64 0), (.bool false), (.int .u8 0)], (.struct [(2, 0), (3, 1), (4, 2), (6, 3)])⟩), (9, ⟨1, 16, [(.string .empty)], .str⟩), (10, ⟨1, 16, [(.string .empty)], .str⟩), (11, ⟨1, 16, [(.string .empty)], .str⟩), (12, ⟨1, 8, [(.int .u64 0)], (.int .u64)⟩), (13, ⟨2, 24, [(.string .empty), (.int .u64 0)], (.struct [(9, 0), (12, 1)])⟩), (14, ⟨2, 24, [(.string .empty), (.int .u64 0)], (.struct [(9, 0), (12, 1)])⟩), (15, ⟨1, 8, [(.pointer none)], .flat⟩), (16, ⟨1, 8, [(.pointer none)], .flat⟩), (17, ⟨1, 8, [(.pointer none)], .flat⟩), (18, ⟨1, 8, [(.pointer none)], (.struct [(17, 0)])⟩), (19, ⟨1, 8, [(.pointer none)], (.struct [(17, 0)])⟩), (21, ⟨1, 4, [(.int .i32 0)], (.int .i32)⟩), (22, ⟨1, 24, [(.slice none 0 0)], (.slice 56)⟩), (23, ⟨1, 24, [(.slice none 0 0)], (.struct [(22, 0)])⟩), (24, ⟨1, 24, [(.slice none 0 0)], (.struct [(22, 0)])⟩), (25, ⟨1, 24, [(.slice none 0 0)], (.slice 42)⟩), (30, ⟨1, 24, [(.slice none 0 0)], (.slice 46)⟩), (31, ⟨1, 24, [(.slice none 0 0)], (.struct [(30, 0)])⟩), (32, ⟨1, 24, [(.slice none 0 0)], (.struct [(30, 0)])⟩), (34, ⟨1, 24, [(.slice none 0 0)], (.slice 48)⟩), (41, ⟨4, 40, [(.int .i64 0), (.int .i64 0), (.int .i64 0), (.string .empty)], (.struct [(3, 0), (3, 1), (3, 2), (9, 3)])⟩), (42, ⟨4, 40, [(.int .i64 0), (.int .i64 0), (.int .i64 0), (.string .empty)], (.struct [(3, 0), (3, 1), (3, 2), (9, 3)])⟩), (45, ⟨1, 24, [(.slice none 0 0)], (.struct [(34, 0)])⟩), (46, ⟨1, 24, [(.slice none 0 0)], (.struct [(34, 0)])⟩), (48, ⟨4, 40, [(.int .i64 0), (.int .i64 0), (.int .i64 0), (.string .empty)], (.struct [(3, 0), (3, 1), (3, 2), (9, 3)])⟩), (55, ⟨1, 24, [(.slice none 0 0)], (.struct [(25, 0)])⟩), (56, ⟨1, 24, [(.slice none 0 0)], (.struct [(25, 0)])⟩), (64, ⟨1, 24, [(.slice none 0 0)], (.slice 9)⟩), (65, ⟨6, 80, [(.int .i64 0), (.int .i64 0), (.bool false), (.int .i64 0), (.slice none 0 0), (.slice none 0 0)], (.struct [(3, 0), (3, 1), (4, 2), (3, 3), (64, 4), (64, 5)])⟩), (66, ⟨6, 80, [(.int .i64 0), (.int .i64 0), (.bool false), (.int .i64 0), (.slice none 0 0), (.slice none 0 0)], (.struct [(3, 0), (3, 1), (4, 2), (3, 3), (64, 4), (64, 5)])⟩), (81, ⟨1, 24, [(.slice none 0 0)], (.slice 3)⟩), (90, ⟨1, 8, [(.pointer none)], .flat⟩), (106, ⟨1, 8, [(.pointer none)], .flat⟩), (107, ⟨1, 8, [(.int .u64 0)], (.int .u64)⟩), (117, ⟨2, 2, [(.int .u8 0), (.int .u8 0)], (.struct [(5, 0), (5, 1)])⟩), (118, ⟨2, 2, [(.int .u8 0), (.int .u8 0)], (.struct [(5, 0), (5, 1)])⟩), (124, ⟨4, 40, [(.pointer none), (.pointer none), (.pointer none), (.string .empty)], (.struct [(17, 0), (17, 1), (17, 2), (9, 3)])⟩), (125, ⟨4, 40, [(.pointer none), (.pointer none), (.pointer none), (.string .empty)], (.struct [(17, 0), (17, 1), (17, 2), (9, 3)])⟩), (127, ⟨0, 0, [], (.struct [(126, 0)])⟩), (128, ⟨0, 0, [], (.struct [(126, 0)])⟩), (130, ⟨1, 4, [(.int .u32 0)], (.int .u32)⟩), (131, ⟨1, 1, [(.int .u8 0)], (.int .u8)⟩), (132, ⟨1, 1, [(.int .u8 0)], (.int .u8)⟩), (134, ⟨1, 8, [(.pointer none)], .flat⟩), (135, ⟨1, 4, [(.int .i32 0)], (.int .i32)⟩), (136, ⟨1, 4, [(.int .i32 0)], (.int .i32)⟩)]
theorem ok2 : OkT Tryz.prog 2 ⟨1, 8, [(.int .i64 0)], (.int .i64)⟩ := ⟨by kernel_rfl, by kernel_rfl⟩
theorem ok3 : OkT Tryz.prog 3 ⟨1, 8, [(.int .i64 0)], (.int .i64)⟩ := ⟨by kernel_rfl, by kernel_rfl⟩
theorem ok4 : OkT Tryz.prog 4 ⟨1, 1, [(.bool false)], .bool⟩ := ⟨by kernel_rfl, by kernel_rfl⟩
theorem ok5 : OkT Tryz.prog 5 ⟨1, 1, [(.int .u8 0)], (.int .u8)⟩ := ⟨by kernel_rfl, by kernel_rfl⟩
theorem ok6 : OkT Tryz.prog 6 ⟨1, 1, [(.int .u8 0)], (.int .u8)⟩ := ⟨by kernel_rfl, by kernel_rfl⟩
theorem ok7 : OkT Tryz.prog 7 ⟨4, 24, [(.int .i64 0), (.int .i64 0), (.bool false), (.int .u8 0)], (.struct [(2, 0), (3, 1), (4, 2), (6, 3)])⟩ := ⟨by kernel_rfl, by kernel_rfl⟩
theorem ok8 : OkT Tryz.prog 8 ⟨4, 24, [(.int .i64 0), (.int .i64 0), (.bool false), (.int .u8 0)], (.struct [(2, 0), (3, 1), (4, 2), (6, 3)])⟩ := ⟨by kernel_rfl, by kernel_rfl⟩
theorem ok9 : OkT Tryz.prog 9 ⟨1, 16, [(.string .empty)], .str⟩ := ⟨by kernel_rfl, by kernel_rfl⟩
theorem ok10 : OkT Tryz.prog 10 ⟨1, 16, [(.string .empty)], .str⟩ := ⟨by kernel_rfl, by kernel_rfl⟩
theorem ok11 : OkT Tryz.prog 11 ⟨1, 16, [(.string .empty)], .str⟩ := ⟨by kernel_rfl, by kernel_rfl⟩
theorem ok12 : OkT Tryz.prog 12 ⟨1, 8, [(.int .u64 0)], (.int .u64)⟩ := ⟨by kernel_rfl, by kernel_rfl⟩
theorem ok13 : OkT Tryz.prog 13 ⟨2, 24, [(.string .empty), (.int .u64 0)], (.struct [(9, 0), (12, 1)])⟩ := ⟨by kernel_rfl, by kernel_rfl⟩
theorem ok14 : OkT Tryz.prog 14 ⟨2, 24, [(.string .empty), (.int .u64 0)], (.struct [(9, 0), (12, 1)])⟩ := ⟨by kernel_rfl, by kernel_rfl⟩
theorem ok15 : OkT Tryz.prog 15 ⟨1, 8, [(.pointer none)], .flat⟩ := ⟨by kernel_rfl, by kernel_rfl⟩
theorem ok16 : OkT Tryz.prog 16 ⟨1, 8, [(.pointer none)], .flat⟩ := ⟨by kernel_rfl, by kernel_rfl⟩
theorem ok17 : OkT Tryz.prog 17 ⟨1, 8, [(.pointer none)], .flat⟩ := ⟨by kernel_rfl, by kernel_rfl⟩
theorem ok18 : OkT Tryz.prog 18 ⟨1, 8, [(.pointer none)], (.struct [(17, 0)])⟩ := ⟨by kernel_rfl, by kernel_rfl⟩
theorem ok19 : OkT Tryz.prog 19 ⟨1, 8, [(.pointer none)], (.struct [(17, 0)])⟩ := ⟨by kernel_rfl, by kernel_rfl⟩
theorem ok21 : OkT Tryz.prog 21 ⟨1, 4, [(.int .i32 0)], (.int .i32)⟩ := ⟨by kernel_rfl, by kernel_rfl⟩
theorem ok22 : OkT Tryz.prog 22 ⟨1, 24, [(.slice none 0 0)], (.slice 56)⟩ := ⟨by kernel_rfl, by kernel_rfl⟩
theorem ok23 : OkT Tryz.prog 23 ⟨1, 24, [(.slice none 0 0)], (.struct [(22, 0)])⟩ := ⟨by kernel_rfl, by kernel_rfl⟩
theorem ok24 : OkT Tryz.prog 24 ⟨1, 24, [(.slice none 0 0)], (.struct [(22, 0)])⟩ := ⟨by kernel_rfl, by kernel_rfl⟩
theorem ok25 : OkT Tryz.prog 25 ⟨1, 24, [(.slice none 0 0)], (.slice 42)⟩ := ⟨by kernel_rfl, by kernel_rfl⟩
theorem ok30 : OkT Tryz.prog 30 ⟨1, 24, [(.slice none 0 0)], (.slice 46)⟩ := ⟨by kernel_rfl, by kernel_rfl⟩
theorem ok31 : OkT Tryz.prog 31 ⟨1, 24, [(.slice none 0 0)], (.struct [(30, 0)])⟩ := ⟨by kernel_rfl, by kernel_rfl⟩
theorem ok32 : OkT Tryz.prog 32 ⟨1, 24, [(.slice none 0 0)], (.struct [(30, 0)])⟩ := ⟨by kernel_rfl, by kernel_rfl⟩
theorem ok34 : OkT Tryz.prog 34 ⟨1, 24, [(.slice none 0 0)], (.slice 48)⟩ := ⟨by kernel_rfl, by kernel_rfl⟩
theorem ok41 : OkT Tryz.prog 41 ⟨4, 40, [(.int .i64 0), (.int .i64 0), (.int .i64 0), (.string .empty)], (.struct [(3, 0), (3, 1), (3, 2), (9, 3)])⟩ := ⟨by kernel_rfl, by kernel_rfl⟩
theorem ok42 : OkT Tryz.prog 42 ⟨4, 40, [(.int .i64 0), (.int .i64 0), (.int .i64 0), (.string .empty)], (.struct [(3, 0), (3, 1), (3, 2), (9, 3)])⟩ := ⟨by kernel_rfl, by kernel_rfl⟩
theorem ok45 : OkT Tryz.prog 45 ⟨1, 24, [(.slice none 0 0)], (.struct [(34, 0)])⟩ := ⟨by kernel_rfl, by kernel_rfl⟩
theorem ok46 : OkT Tryz.prog 46 ⟨1, 24, [(.slice none 0 0)], (.struct [(34, 0)])⟩ := ⟨by kernel_rfl, by kernel_rfl⟩
theorem ok48 : OkT Tryz.prog 48 ⟨4, 40, [(.int .i64 0), (.int .i64 0), (.int .i64 0), (.string .empty)], (.struct [(3, 0), (3, 1), (3, 2), (9, 3)])⟩ := ⟨by kernel_rfl, by kernel_rfl⟩
theorem ok55 : OkT Tryz.prog 55 ⟨1, 24, [(.slice none 0 0)], (.struct [(25, 0)])⟩ := ⟨by kernel_rfl, by kernel_rfl⟩
theorem ok56 : OkT Tryz.prog 56 ⟨1, 24, [(.slice none 0 0)], (.struct [(25, 0)])⟩ := ⟨by kernel_rfl, by kernel_rfl⟩
theorem ok64 : OkT Tryz.prog 64 ⟨1, 24, [(.slice none 0 0)], (.slice 9)⟩ := ⟨by kernel_rfl, by kernel_rfl⟩
theorem ok65 : OkT Tryz.prog 65 ⟨6, 80, [(.int .i64 0), (.int .i64 0), (.bool false), (.int .i64 0), (.slice none 0 0), (.slice none 0 0)], (.struct [(3, 0), (3, 1), (4, 2), (3, 3), (64, 4), (64, 5)])⟩ := ⟨by kernel_rfl, by kernel_rfl⟩
theorem ok66 : OkT Tryz.prog 66 ⟨6, 80, [(.int .i64 0), (.int .i64 0), (.bool false), (.int .i64 0), (.slice none 0 0), (.slice none 0 0)], (.struct [(3, 0), (3, 1), (4, 2), (3, 3), (64, 4), (64, 5)])⟩ := ⟨by kernel_rfl, by kernel_rfl⟩
theorem ok81 : OkT Tryz.prog 81 ⟨1, 24, [(.slice none 0 0)], (.slice 3)⟩ := ⟨by kernel_rfl, by kernel_rfl⟩
theorem ok90 : OkT Tryz.prog 90 ⟨1, 8, [(.pointer none)], .flat⟩ := ⟨by kernel_rfl, by kernel_rfl⟩
theorem ok106 : OkT Tryz.prog 106 ⟨1, 8, [(.pointer none)], .flat⟩ := ⟨by kernel_rfl, by kernel_rfl⟩
theorem ok107 : OkT Tryz.prog 107 ⟨1, 8, [(.int .u64 0)], (.int .u64)⟩ := ⟨by kernel_rfl, by kernel_rfl⟩
theorem ok117 : OkT Tryz.prog 117 ⟨2, 2, [(.int .u8 0), (.int .u8 0)], (.struct [(5, 0), (5, 1)])⟩ := ⟨by kernel_rfl, by kernel_rfl⟩
theorem ok118 : OkT Tryz.prog 118 ⟨2, 2, [(.int .u8 0), (.int .u8 0)], (.struct [(5, 0), (5, 1)])⟩ := ⟨by kernel_rfl, by kernel_rfl⟩
theorem ok124 : OkT Tryz.prog 124 ⟨4, 40, [(.pointer none), (.pointer none), (.pointer none), (.string .empty)], (.struct [(17, 0), (17, 1), (17, 2), (9, 3)])⟩ := ⟨by kernel_rfl, by kernel_rfl⟩
theorem ok125 : OkT Tryz.prog 125 ⟨4, 40, [(.pointer none), (.pointer none), (.pointer none), (.string .empty)], (.struct [(17, 0), (17, 1), (17, 2), (9, 3)])⟩ := ⟨by kernel_rfl, by kernel_rfl⟩
theorem ok127 : OkT Tryz.prog 127 ⟨0, 0, [], (.struct [(126, 0)])⟩ := ⟨by kernel_rfl, by kernel_rfl⟩
theorem ok128 : OkT Tryz.prog 128 ⟨0, 0, [], (.struct [(126, 0)])⟩ := ⟨by kernel_rfl, by kernel_rfl⟩
theorem ok130 : OkT Tryz.prog 130 ⟨1, 4, [(.int .u32 0)], (.int .u32)⟩ := ⟨by kernel_rfl, by kernel_rfl⟩
theorem ok131 : OkT Tryz.prog 131 ⟨1, 1, [(.int .u8 0)], (.int .u8)⟩ := ⟨by kernel_rfl, by kernel_rfl⟩
theorem ok132 : OkT Tryz.prog 132 ⟨1, 1, [(.int .u8 0)], (.int .u8)⟩ := ⟨by kernel_rfl, by kernel_rfl⟩
theorem ok134 : OkT Tryz.prog 134 ⟨1, 8, [(.pointer none)], .flat⟩ := ⟨by kernel_rfl, by kernel_rfl⟩
theorem ok135 : OkT Tryz.prog 135 ⟨1, 4, [(.int .i32 0)], (.int .i32)⟩ := ⟨by kernel_rfl, by kernel_rfl⟩
theorem ok136 : OkT Tryz.prog 136 ⟨1, 4, [(.int .i32 0)], (.int .i32)⟩ := ⟨by kernel_rfl, by kernel_rfl⟩
theorem tab_ok : TabOk Tryz.prog tab := tab_cons ok2 <| tab_cons ok3 <| tab_cons ok4 <| tab_cons ok5 <| tab_cons ok6 <| tab_cons ok7 <| tab_cons ok8 <| tab_cons ok9 <| tab_cons ok10 <| tab_cons ok11 <| tab_cons ok12 <| tab_cons ok13 <| tab_cons ok14 <| tab_cons ok15 <| tab_cons ok16 <| tab_cons ok17 <| tab_cons ok18 <| tab_cons ok19 <| tab_cons ok21 <| tab_cons ok22 <| tab_cons ok23 <| tab_cons ok24 <| tab_cons ok25 <| tab_cons ok30 <| tab_cons ok31 <| tab_cons ok32 <| tab_cons ok34 <| tab_cons ok41 <| tab_cons ok42 <| tab_cons ok45 <| tab_cons ok46 <| tab_cons ok48 <| tab_cons ok55 <| tab_cons ok56 <| tab_cons ok64 <| tab_cons ok65 <| tab_cons ok66 <| tab_cons ok81 <| tab_cons ok90 <| tab_cons ok106 <| tab_cons ok107 <| tab_cons ok117 <| tab_cons ok118 <| tab_cons ok124 <| tab_cons ok125 <| tab_cons ok127 <| tab_cons ok128 <| tab_cons ok130 <| tab_cons ok131 <| tab_cons ok132 <| tab_cons ok134 <| tab_cons ok135 <| tab_cons ok136 <| tab_nil
@[go_sem] theorem look2 : look tab 2 = some ⟨1, 8, [(.int .i64 0)], (.int .i64)⟩ := rfl
@[go_sem] theorem look3 : look tab 3 = some ⟨1, 8, [(.int .i64 0)], (.int .i64)⟩ := rfl
@[go_sem] theorem look4 : look tab 4 = some ⟨1, 1, [(.bool false)], .bool⟩ := rfl
@[go_sem] theorem look5 : look tab 5 = some ⟨1, 1, [(.int .u8 0)], (.int .u8)⟩ := rfl
@[go_sem] theorem look6 : look tab 6 = some ⟨1, 1, [(.int .u8 0)], (.int .u8)⟩ := rfl
@[go_sem] theorem look7 : look tab 7 = some ⟨4, 24, [(.int .i64 0), (.int .i64 0), (.bool false), (.int .u8 0)], (.struct [(2, 0), (3, 1), (4, 2), (6, 3)])⟩ := rfl
@[go_sem] theorem look8 : look tab 8 = some ⟨4, 24, [(.int .i64 0), (.int .i64 0), (.bool false), (.int .u8 0)], (.struct [(2, 0), (3, 1), (4, 2), (6, 3)])⟩ := rfl
@[go_sem] theorem look9 : look tab 9 = some ⟨1, 16, [(.string .empty)], .str⟩ := rfl
@[go_sem] theorem look10 : look tab 10 = some ⟨1, 16, [(.string .empty)], .str⟩ := rfl
@[go_sem] theorem look11 : look tab 11 = some ⟨1, 16, [(.string .empty)], .str⟩ := rfl
@[go_sem] theorem look12 : look tab 12 = some ⟨1, 8, [(.int .u64 0)], (.int .u64)⟩ := rfl
@[go_sem] theorem look13 : look tab 13 = some ⟨2, 24, [(.string .empty), (.int .u64 0)], (.struct [(9, 0), (12, 1)])⟩ := rfl
@[go_sem] theorem look14 : look tab 14 = some ⟨2, 24, [(.string .empty), (.int .u64 0)], (.struct [(9, 0), (12, 1)])⟩ := rfl
@[go_sem] theorem look15 : look tab 15 = some ⟨1, 8, [(.pointer none)], .flat⟩ := rfl
@[go_sem] theorem look16 : look tab 16 = some ⟨1, 8, [(.pointer none)], .flat⟩ := rfl
@[go_sem] theorem look17 : look tab 17 = some ⟨1, 8, [(.pointer none)], .flat⟩ := rfl
@[go_sem] theorem look18 : look tab 18 = some ⟨1, 8, [(.pointer none)], (.struct [(17, 0)])⟩ := rfl
@[go_sem] theorem look19 : look tab 19 = some ⟨1, 8, [(.pointer none)], (.struct [(17, 0)])⟩ := rfl
@[go_sem] theorem look21 : look tab 21 = some ⟨1, 4, [(.int .i32 0)], (.int .i32)⟩ := rfl
@[go_sem] theorem look22 : look tab 22 = some ⟨1, 24, [(.slice none 0 0)], (.slice 56)⟩ := rfl
@[go_sem] theorem look23 : look tab 23 = some ⟨1, 24, [(.slice none 0 0)], (.struct [(22, 0)])⟩ := rfl
@[go_sem] theorem look24 : look tab 24 = some ⟨1, 24, [(.slice none 0 0)], (.struct [(22, 0)])⟩ := rfl
@[go_sem] theorem look25 : look tab 25 = some ⟨1, 24, [(.slice none 0 0)], (.slice 42)⟩ := rfl
@[go_sem] theorem look30 : look tab 30 = some ⟨1, 24, [(.slice none 0 0)], (.slice 46)⟩ := rfl
@[go_sem] theorem look31 : look tab 31 = some ⟨1, 24, [(.slice none 0 0)], (.struct [(30, 0)])⟩ := rfl
@[go_sem] theorem look32 : look tab 32 = some ⟨1, 24, [(.slice none 0 0)], (.struct [(30, 0)])⟩ := rfl
@[go_sem] theorem look34 : look tab 34 = some ⟨1, 24, [(.slice none 0 0)], (.slice 48)⟩ := rfl
@[go_sem] theorem look41 : look tab 41 = some ⟨4, 40, [(.int .i64 0), (.int .i64 0), (.int .i64 0), (.string .empty)], (.struct [(3, 0), (3, 1), (3, 2), (9, 3)])⟩ := rfl
@[go_sem] theorem look42 : look tab 42 = some ⟨4, 40, [(.int .i64 0), (.int .i64 0), (.int .i64 0), (.string .empty)], (.struct [(3, 0), (3, 1), (3, 2), (9, 3)])⟩ := rfl
@[go_sem] theorem look45 : look tab 45 = some ⟨1, 24, [(.slice none 0 0)], (.struct [(34, 0)])⟩ := rfl
@[go_sem] theorem look46 : look tab 46 = some ⟨1, 24, [(.slice none 0 0)], (.struct [(34, 0)])⟩ := rfl
@[go_sem] theorem look48 : look tab 48 = some ⟨4, 40, [(.int .i64 0), (.int .i64 0), (.int .i64 0), (.string .empty)], (.struct [(3, 0), (3, 1), (3, 2), (9, 3)])⟩ := rfl
@[go_sem] theorem look55 : look tab 55 = some ⟨1, 24, [(.slice none 0 0)], (.struct [(25, 0)])⟩ := rfl
@[go_sem] theorem look56 : look tab 56 = some ⟨1, 24, [(.slice none 0 0)], (.struct [(25, 0)])⟩ := rfl
@[go_sem] theorem look64 : look tab 64 = some ⟨1, 24, [(.slice none 0 0)], (.slice 9)⟩ := rfl
@[go_sem] theorem look65 : look tab 65 = some ⟨6, 80, [(.int .i64 0), (.int .i64 0), (.bool false), (.int .i64 0), (.slice none 0 0), (.slice none 0 0)], (.struct [(3, 0), (3, 1), (4, 2), (3, 3), (64, 4), (64, 5)])⟩ := rfl
@[go_sem] theorem look66 : look tab 66 = some ⟨6, 80, [(.int .i64 0), (.int .i64 0), (.bool false), (.int .i64 0), (.slice none 0 0), (.slice none 0 0)], (.struct [(3, 0), (3, 1), (4, 2), (3, 3), (64, 4), (64, 5)])⟩ := rfl
@[go_sem] theorem look81 : look tab 81 = some ⟨1, 24, [(.slice none 0 0)], (.slice 3)⟩ := rfl
@[go_sem] theorem look90 : look tab 90 = some ⟨1, 8, [(.pointer none)], .flat⟩ := rfl
@[go_sem] theorem look106 : look tab 106 = some ⟨1, 8, [(.pointer none)], .flat⟩ := rfl
@[go_sem] theorem look107 : look tab 107 = some ⟨1, 8, [(.int .u64 0)], (.int .u64)⟩ := rfl
@[go_sem] theorem look117 : look tab 117 = some ⟨2, 2, [(.int .u8 0), (.int .u8 0)], (.struct [(5, 0), (5, 1)])⟩ := rfl
@[go_sem] theorem look118 : look tab 118 = some ⟨2, 2, [(.int .u8 0), (.int .u8 0)], (.struct [(5, 0), (5, 1)])⟩ := rfl
@[go_sem] theorem look124 : look tab 124 = some ⟨4, 40, [(.pointer none), (.pointer none), (.pointer none), (.string .empty)], (.struct [(17, 0), (17, 1), (17, 2), (9, 3)])⟩ := rfl
@[go_sem] theorem look125 : look tab 125 = some ⟨4, 40, [(.pointer none), (.pointer none), (.pointer none), (.string .empty)], (.struct [(17, 0), (17, 1), (17, 2), (9, 3)])⟩ := rfl
@[go_sem] theorem look127 : look tab 127 = some ⟨0, 0, [], (.struct [(126, 0)])⟩ := rfl
@[go_sem] theorem look128 : look tab 128 = some ⟨0, 0, [], (.struct [(126, 0)])⟩ := rfl
@[go_sem] theorem look130 : look tab 130 = some ⟨1, 4, [(.int .u32 0)], (.int .u32)⟩ := rfl
@[go_sem] theorem look131 : look tab 131 = some ⟨1, 1, [(.int .u8 0)], (.int .u8)⟩ := rfl
@[go_sem] theorem look132 : look tab 132 = some ⟨1, 1, [(.int .u8 0)], (.int .u8)⟩ := rfl
@[go_sem] theorem look134 : look tab 134 = some ⟨1, 8, [(.pointer none)], .flat⟩ := rfl
@[go_sem] theorem look135 : look tab 135 = some ⟨1, 4, [(.int .i32 0)], (.int .i32)⟩ := rfl
@[go_sem] theorem look136 : look tab 136 = some ⟨1, 4, [(.int .i32 0)], (.int .i32)⟩ := rfl
theorem mixed : Tryz.prog.follows .mixedOrders = true := by kernel_rfl
end Go.TL.YtjhcfmcdllfmpaaGreatDoor
