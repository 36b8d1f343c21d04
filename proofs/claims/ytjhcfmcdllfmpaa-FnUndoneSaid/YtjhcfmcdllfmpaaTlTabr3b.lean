import Derived.Test.YtjhcfmcdllfmpaaTlAttr
import Derived.Test.YtjhcfmcdllfmpaaProg
import Derived.KernelRfl
set_option linter.unusedSimpArgs false
set_option linter.unusedVariables false
namespace Go.TL.Ytjhcfmcdllfmpaa
open Go Go.Proofs
theorem tab_cons {P : Program} {t : Nat} {e : TE} {r : Tab} (h : OkT P t e) (k : TabOk P r) : TabOk P ((t, e) :: r) := fun p hp => by
  rcases List.mem_cons.1 hp with rfl | hp
  · exact h
  · exact k p hp
theorem tab_nil {P : Program} : TabOk P [] := fun p hp => by cases hp
def tab : Tab := [(2, ⟨1, 8, [(.int .i64 0)], (.int .i64)⟩), (3, ⟨1, 8, [(.int .i64 0)], (.int .i64)⟩), (4, ⟨1, 1, [(.bool false)], .bool⟩), (5, ⟨1, 1, [(.int .u8 0)], (.int .u8)⟩), (6, ⟨1, 1, [(.int .u8 0)], (.int .u8)⟩), (7, ⟨4, 24, [(.int .i64 0), (.int .i64 0), (.bool false), (.int .u8 0)], (.struct [(2, 0), (3, 1), (4, 2), (6, 3)])⟩), (8, ⟨4, 24, [(.int .i64 0), (.int .i64 0), (.bool false), (.int .u8 0)], (.struct [(2, 0), (3, 1), (4, 2), (6, 3)])⟩), (9, ⟨1, 16, [(.string .empty)], .str⟩), (10, ⟨1, 16, [(.string .empty)], .str⟩), (11, ⟨1, 16, [(.string .empty)], .str⟩), (12, ⟨1, 8, [(.int .u64 0)], (.int .u64)⟩), (13, ⟨2, 24, [(.string .empty), (.int .u64 0)], (.struct [(9, 0), (12, 1)])⟩), (14, ⟨2, 24, [(.string .empty), (.int .u64 0)], (.struct [(9, 0), (12, 1)])⟩), (15, ⟨1, 8, [(.pointer none)], .flat⟩), (16, ⟨1, 8, [(.pointer none)], .flat⟩), (17, ⟨1, 8, [(.pointer none)], .flat⟩), (18, ⟨1, 8, [(.pointer none)], (.struct [(17, 0)])⟩), (19, ⟨1, 8, [(.pointer none)], (.struct [(17, 0)])⟩), (21, ⟨1, 4, [(.int .i32 0)], (.int .i32)⟩), (22, ⟨1, 24, [(.slice none 0 0)], (.slice 5)⟩), (23, ⟨1, 24, [(.slice none 0 0)], (.slice 3)⟩), (24, ⟨1, 24, [(.slice none 0 0)], (.slice 59)⟩), (27, ⟨4, 64, [(.slice none 0 0), (.slice none 0 0), (.int .i64 0), (.bool false)], (.struct [(23, 0), (24, 1), (3, 2), (4, 3)])⟩), (28, ⟨4, 64, [(.slice none 0 0), (.slice none 0 0), (.int .i64 0), (.bool false)], (.struct [(23, 0), (24, 1), (3, 2), (4, 3)])⟩), (44, ⟨1, 24, [(.slice none 0 0)], (.slice 89)⟩), (45, ⟨4, 64, [(.slice none 0 0), (.slice none 0 0), (.int .i64 0), (.bool false)], (.struct [(23, 0), (44, 1), (3, 2), (4, 3)])⟩), (46, ⟨4, 64, [(.slice none 0 0), (.slice none 0 0), (.int .i64 0), (.bool false)], (.struct [(23, 0), (44, 1), (3, 2), (4, 3)])⟩), (52, ⟨1, 8, [(.pointer none)], .flat⟩), (53, ⟨1, 8, [(.int .u64 0)], (.int .u64)⟩), (54, ⟨3, 40, [(.slice none 0 0), (.int .i64 0), (.int .u64 0)], (.struct [(22, 0), (3, 1), (53, 2)])⟩), (55, ⟨3, 40, [(.slice none 0 0), (.int .i64 0), (.int .u64 0)], (.struct [(22, 0), (3, 1), (53, 2)])⟩), (58, ⟨3, 24, [(.int .i64 0), (.int .i64 0), (.int .i64 0)], (.struct [(3, 0), (3, 1), (3, 2)])⟩), (59, ⟨3, 24, [(.int .i64 0), (.int .i64 0), (.int .i64 0)], (.struct [(3, 0), (3, 1), (3, 2)])⟩), (62, ⟨1, 8, [(.pointer none)], .flat⟩), (89, ⟨3, 24, [(.int .i64 0), (.int .i64 0), (.int .i64 0)], (.struct [(3, 0), (3, 1), (3, 2)])⟩), (93, ⟨1, 8, [(.int .u64 0)], (.int .u64)⟩), (95, ⟨4, 40, [(.pointer none), (.pointer none), (.pointer none), (.string .empty)], (.struct [(17, 0), (17, 1), (17, 2), (9, 3)])⟩), (96, ⟨4, 40, [(.pointer none), (.pointer none), (.pointer none), (.string .empty)], (.struct [(17, 0), (17, 1), (17, 2), (9, 3)])⟩), (98, ⟨0, 0, [], (.struct [(97, 0)])⟩), (99, ⟨0, 0, [], (.struct [(97, 0)])⟩), (100, ⟨1, 4, [(.int .u32 0)], (.int .u32)⟩), (101, ⟨1, 1, [(.int .u8 0)], (.int .u8)⟩), (102, ⟨1, 1, [(.int .u8 0)], (.int .u8)⟩), (104, ⟨1, 8, [(.pointer none)], .flat⟩), (105, ⟨1, 4, [(.int .i32 0)], (.int .i32)⟩), (106, ⟨1, 4, [(.int .i32 0)], (.int .i32)⟩)]
theorem ok2 : OkT Try.prog 2 ⟨1, 8, [(.int .i64 0)], (.int .i64)⟩ := ⟨by kernel_rfl, by kernel_rfl⟩
theorem ok3 : OkT Try.prog 3 ⟨1, 8, [(.int .i64 0)], (.int .i64)⟩ := ⟨by kernel_rfl, by kernel_rfl⟩
theorem ok4 : OkT Try.prog 4 ⟨1, 1, [(.bool false)], .bool⟩ := ⟨by kernel_rfl, by kernel_rfl⟩
theorem ok5 : OkT Try.prog 5 ⟨1, 1, [(.int .u8 0)], (.int .u8)⟩ := ⟨by kernel_rfl, by kernel_rfl⟩
theorem ok6 : OkT Try.prog 6 ⟨1, 1, [(.int .u8 0)], (.int .u8)⟩ := ⟨by kernel_rfl, by kernel_rfl⟩
theorem ok7 : OkT Try.prog 7 ⟨4, 24, [(.int .i64 0), (.int .i64 0), (.bool false), (.int .u8 0)], (.struct [(2, 0), (3, 1), (4, 2), (6, 3)])⟩ := ⟨by kernel_rfl, by kernel_rfl⟩
theorem ok8 : OkT Try.prog 8 ⟨4, 24, [(.int .i64 0), (.int .i64 0), (.bool false), (.int .u8 0)], (.struct [(2, 0), (3, 1), (4, 2), (6, 3)])⟩ := ⟨by kernel_rfl, by kernel_rfl⟩
theorem ok9 : OkT Try.prog 9 ⟨1, 16, [(.string .empty)], .str⟩ := ⟨by kernel_rfl, by kernel_rfl⟩
theorem ok10 : OkT Try.prog 10 ⟨1, 16, [(.string .empty)], .str⟩ := ⟨by kernel_rfl, by kernel_rfl⟩
theorem ok11 : OkT Try.prog 11 ⟨1, 16, [(.string .empty)], .str⟩ := ⟨by kernel_rfl, by kernel_rfl⟩
theorem ok12 : OkT Try.prog 12 ⟨1, 8, [(.int .u64 0)], (.int .u64)⟩ := ⟨by kernel_rfl, by kernel_rfl⟩
theorem ok13 : OkT Try.prog 13 ⟨2, 24, [(.string .empty), (.int .u64 0)], (.struct [(9, 0), (12, 1)])⟩ := ⟨by kernel_rfl, by kernel_rfl⟩
theorem ok14 : OkT Try.prog 14 ⟨2, 24, [(.string .empty), (.int .u64 0)], (.struct [(9, 0), (12, 1)])⟩ := ⟨by kernel_rfl, by kernel_rfl⟩
theorem ok15 : OkT Try.prog 15 ⟨1, 8, [(.pointer none)], .flat⟩ := ⟨by kernel_rfl, by kernel_rfl⟩
theorem ok16 : OkT Try.prog 16 ⟨1, 8, [(.pointer none)], .flat⟩ := ⟨by kernel_rfl, by kernel_rfl⟩
theorem ok17 : OkT Try.prog 17 ⟨1, 8, [(.pointer none)], .flat⟩ := ⟨by kernel_rfl, by kernel_rfl⟩
theorem ok18 : OkT Try.prog 18 ⟨1, 8, [(.pointer none)], (.struct [(17, 0)])⟩ := ⟨by kernel_rfl, by kernel_rfl⟩
theorem ok19 : OkT Try.prog 19 ⟨1, 8, [(.pointer none)], (.struct [(17, 0)])⟩ := ⟨by kernel_rfl, by kernel_rfl⟩
theorem ok21 : OkT Try.prog 21 ⟨1, 4, [(.int .i32 0)], (.int .i32)⟩ := ⟨by kernel_rfl, by kernel_rfl⟩
theorem ok22 : OkT Try.prog 22 ⟨1, 24, [(.slice none 0 0)], (.slice 5)⟩ := ⟨by kernel_rfl, by kernel_rfl⟩
theorem ok23 : OkT Try.prog 23 ⟨1, 24, [(.slice none 0 0)], (.slice 3)⟩ := ⟨by kernel_rfl, by kernel_rfl⟩
theorem ok24 : OkT Try.prog 24 ⟨1, 24, [(.slice none 0 0)], (.slice 59)⟩ := ⟨by kernel_rfl, by kernel_rfl⟩
theorem ok27 : OkT Try.prog 27 ⟨4, 64, [(.slice none 0 0), (.slice none 0 0), (.int .i64 0), (.bool false)], (.struct [(23, 0), (24, 1), (3, 2), (4, 3)])⟩ := ⟨by kernel_rfl, by kernel_rfl⟩
theorem ok28 : OkT Try.prog 28 ⟨4, 64, [(.slice none 0 0), (.slice none 0 0), (.int .i64 0), (.bool false)], (.struct [(23, 0), (24, 1), (3, 2), (4, 3)])⟩ := ⟨by kernel_rfl, by kernel_rfl⟩
theorem ok44 : OkT Try.prog 44 ⟨1, 24, [(.slice none 0 0)], (.slice 89)⟩ := ⟨by kernel_rfl, by kernel_rfl⟩
theorem ok45 : OkT Try.prog 45 ⟨4, 64, [(.slice none 0 0), (.slice none 0 0), (.int .i64 0), (.bool false)], (.struct [(23, 0), (44, 1), (3, 2), (4, 3)])⟩ := ⟨by kernel_rfl, by kernel_rfl⟩
theorem ok46 : OkT Try.prog 46 ⟨4, 64, [(.slice none 0 0), (.slice none 0 0), (.int .i64 0), (.bool false)], (.struct [(23, 0), (44, 1), (3, 2), (4, 3)])⟩ := ⟨by kernel_rfl, by kernel_rfl⟩
theorem ok52 : OkT Try.prog 52 ⟨1, 8, [(.pointer none)], .flat⟩ := ⟨by kernel_rfl, by kernel_rfl⟩
theorem ok53 : OkT Try.prog 53 ⟨1, 8, [(.int .u64 0)], (.int .u64)⟩ := ⟨by kernel_rfl, by kernel_rfl⟩
theorem ok54 : OkT Try.prog 54 ⟨3, 40, [(.slice none 0 0), (.int .i64 0), (.int .u64 0)], (.struct [(22, 0), (3, 1), (53, 2)])⟩ := ⟨by kernel_rfl, by kernel_rfl⟩
theorem ok55 : OkT Try.prog 55 ⟨3, 40, [(.slice none 0 0), (.int .i64 0), (.int .u64 0)], (.struct [(22, 0), (3, 1), (53, 2)])⟩ := ⟨by kernel_rfl, by kernel_rfl⟩
theorem ok58 : OkT Try.prog 58 ⟨3, 24, [(.int .i64 0), (.int .i64 0), (.int .i64 0)], (.struct [(3, 0), (3, 1), (3, 2)])⟩ := ⟨by kernel_rfl, by kernel_rfl⟩
theorem ok59 : OkT Try.prog 59 ⟨3, 24, [(.int .i64 0), (.int .i64 0), (.int .i64 0)], (.struct [(3, 0), (3, 1), (3, 2)])⟩ := ⟨by kernel_rfl, by kernel_rfl⟩
theorem ok62 : OkT Try.prog 62 ⟨1, 8, [(.pointer none)], .flat⟩ := ⟨by kernel_rfl, by kernel_rfl⟩
theorem ok89 : OkT Try.prog 89 ⟨3, 24, [(.int .i64 0), (.int .i64 0), (.int .i64 0)], (.struct [(3, 0), (3, 1), (3, 2)])⟩ := ⟨by kernel_rfl, by kernel_rfl⟩
theorem ok93 : OkT Try.prog 93 ⟨1, 8, [(.int .u64 0)], (.int .u64)⟩ := ⟨by kernel_rfl, by kernel_rfl⟩
theorem ok95 : OkT Try.prog 95 ⟨4, 40, [(.pointer none), (.pointer none), (.pointer none), (.string .empty)], (.struct [(17, 0), (17, 1), (17, 2), (9, 3)])⟩ := ⟨by kernel_rfl, by kernel_rfl⟩
theorem ok96 : OkT Try.prog 96 ⟨4, 40, [(.pointer none), (.pointer none), (.pointer none), (.string .empty)], (.struct [(17, 0), (17, 1), (17, 2), (9, 3)])⟩ := ⟨by kernel_rfl, by kernel_rfl⟩
theorem ok98 : OkT Try.prog 98 ⟨0, 0, [], (.struct [(97, 0)])⟩ := ⟨by kernel_rfl, by kernel_rfl⟩
theorem ok99 : OkT Try.prog 99 ⟨0, 0, [], (.struct [(97, 0)])⟩ := ⟨by kernel_rfl, by kernel_rfl⟩
theorem ok100 : OkT Try.prog 100 ⟨1, 4, [(.int .u32 0)], (.int .u32)⟩ := ⟨by kernel_rfl, by kernel_rfl⟩
theorem ok101 : OkT Try.prog 101 ⟨1, 1, [(.int .u8 0)], (.int .u8)⟩ := ⟨by kernel_rfl, by kernel_rfl⟩
theorem ok102 : OkT Try.prog 102 ⟨1, 1, [(.int .u8 0)], (.int .u8)⟩ := ⟨by kernel_rfl, by kernel_rfl⟩
theorem ok104 : OkT Try.prog 104 ⟨1, 8, [(.pointer none)], .flat⟩ := ⟨by kernel_rfl, by kernel_rfl⟩
theorem ok105 : OkT Try.prog 105 ⟨1, 4, [(.int .i32 0)], (.int .i32)⟩ := ⟨by kernel_rfl, by kernel_rfl⟩
theorem ok106 : OkT Try.prog 106 ⟨1, 4, [(.int .i32 0)], (.int .i32)⟩ := ⟨by kernel_rfl, by kernel_rfl⟩
theorem tab_ok : TabOk Try.prog tab := tab_cons ok2 <| tab_cons ok3 <| tab_cons ok4 <| tab_cons ok5 <| tab_cons ok6 <| tab_cons ok7 <| tab_cons ok8 <| tab_cons ok9 <| tab_cons ok10 <| tab_cons ok11 <| tab_cons ok12 <| tab_cons ok13 <| tab_cons ok14 <| tab_cons ok15 <| tab_cons ok16 <| tab_cons ok17 <| tab_cons ok18 <| tab_cons ok19 <| tab_cons ok21 <| tab_cons ok22 <| tab_cons ok23 <| tab_cons ok24 <| tab_cons ok27 <| tab_cons ok28 <| tab_cons ok44 <| tab_cons ok45 <| tab_cons ok46 <| tab_cons ok52 <| tab_cons ok53 <| tab_cons ok54 <| tab_cons ok55 <| tab_cons ok58 <| tab_cons ok59 <| tab_cons ok62 <| tab_cons ok89 <| tab_cons ok93 <| tab_cons ok95 <| tab_cons ok96 <| tab_cons ok98 <| tab_cons ok99 <| tab_cons ok100 <| tab_cons ok101 <| tab_cons ok102 <| tab_cons ok104 <| tab_cons ok105 <| tab_cons ok106 <| tab_nil
@[go_sem] theorem look2 : look tab 2 = some ⟨1, 8, [(.int .i64 0)], (.int .i64)⟩ := rfl
@[go_sem] theorem look3 : look tab 3 = some ⟨1, 8, [(.int .i64 0)], (.int .i64)⟩ := rfl
@[go_sem] theorem look4 : look tab 4 = some ⟨1, 1, [(.bool false)], .bool⟩ := rfl
@[go_sem] theorem look5 : look tab 5 = some ⟨1, 1, [(.int .u8 0)], (.int .u8)⟩ := rfl
@[go_sem] theorem look6 : look tab 6 = some ⟨1, 1, [(.int .u8 0)], (.int .u8)⟩ := rfl
@[go_sem] theorem look7 : look tab 7 = some ⟨4, 24, [(.int .i64 0), (.int .i64 0), (.bool false), (.int .u8 0)], (.struct [(2, 0), (3, 1), (4, 2), (6, 3)])⟩ := rfl
@[go_sem] theorem look8 : look tab 8 = some ⟨4, 24, [(.int .i64 0), (.int .i64 0), (.bool false), (.int .u8 0)], (.struct [(2, 0), (3, 1), (4, 2), (6, 3)])⟩ := rfl
@[go_sem] theorem look9 : look tab 9 = some ⟨1, 16, [(.string .empty)], .str⟩ := rfl
@[go_sem] theorem look10 : look tab 10 = some ⟨1, 16, [(.string .empty)], .str⟩ := rfl
@[go_sem] theorem look11 : look tab 11 = some ⟨1, 16, [(.string .empty)], .str⟩ := rfl
@[go_sem] theorem look12 : look tab 12 = some ⟨1, 8, [(.int .u64 0)], (.int .u64)⟩ := rfl
@[go_sem] theorem look13 : look tab 13 = some ⟨2, 24, [(.string .empty), (.int .u64 0)], (.struct [(9, 0), (12, 1)])⟩ := rfl
@[go_sem] theorem look14 : look tab 14 = some ⟨2, 24, [(.string .empty), (.int .u64 0)], (.struct [(9, 0), (12, 1)])⟩ := rfl
@[go_sem] theorem look15 : look tab 15 = some ⟨1, 8, [(.pointer none)], .flat⟩ := rfl
@[go_sem] theorem look16 : look tab 16 = some ⟨1, 8, [(.pointer none)], .flat⟩ := rfl
@[go_sem] theorem look17 : look tab 17 = some ⟨1, 8, [(.pointer none)], .flat⟩ := rfl
@[go_sem] theorem look18 : look tab 18 = some ⟨1, 8, [(.pointer none)], (.struct [(17, 0)])⟩ := rfl
@[go_sem] theorem look19 : look tab 19 = some ⟨1, 8, [(.pointer none)], (.struct [(17, 0)])⟩ := rfl
@[go_sem] theorem look21 : look tab 21 = some ⟨1, 4, [(.int .i32 0)], (.int .i32)⟩ := rfl
@[go_sem] theorem look22 : look tab 22 = some ⟨1, 24, [(.slice none 0 0)], (.slice 5)⟩ := rfl
@[go_sem] theorem look23 : look tab 23 = some ⟨1, 24, [(.slice none 0 0)], (.slice 3)⟩ := rfl
@[go_sem] theorem look24 : look tab 24 = some ⟨1, 24, [(.slice none 0 0)], (.slice 59)⟩ := rfl
@[go_sem] theorem look27 : look tab 27 = some ⟨4, 64, [(.slice none 0 0), (.slice none 0 0), (.int .i64 0), (.bool false)], (.struct [(23, 0), (24, 1), (3, 2), (4, 3)])⟩ := rfl
@[go_sem] theorem look28 : look tab 28 = some ⟨4, 64, [(.slice none 0 0), (.slice none 0 0), (.int .i64 0), (.bool false)], (.struct [(23, 0), (24, 1), (3, 2), (4, 3)])⟩ := rfl
@[go_sem] theorem look44 : look tab 44 = some ⟨1, 24, [(.slice none 0 0)], (.slice 89)⟩ := rfl
@[go_sem] theorem look45 : look tab 45 = some ⟨4, 64, [(.slice none 0 0), (.slice none 0 0), (.int .i64 0), (.bool false)], (.struct [(23, 0), (44, 1), (3, 2), (4, 3)])⟩ := rfl
@[go_sem] theorem look46 : look tab 46 = some ⟨4, 64, [(.slice none 0 0), (.slice none 0 0), (.int .i64 0), (.bool false)], (.struct [(23, 0), (44, 1), (3, 2), (4, 3)])⟩ := rfl
@[go_sem] theorem look52 : look tab 52 = some ⟨1, 8, [(.pointer none)], .flat⟩ := rfl
@[go_sem] theorem look53 : look tab 53 = some ⟨1, 8, [(.int .u64 0)], (.int .u64)⟩ := rfl
@[go_sem] theorem look54 : look tab 54 = some ⟨3, 40, [(.slice none 0 0), (.int .i64 0), (.int .u64 0)], (.struct [(22, 0), (3, 1), (53, 2)])⟩ := rfl
@[go_sem] theorem look55 : look tab 55 = some ⟨3, 40, [(.slice none 0 0), (.int .i64 0), (.int .u64 0)], (.struct [(22, 0), (3, 1), (53, 2)])⟩ := rfl
@[go_sem] theorem look58 : look tab 58 = some ⟨3, 24, [(.int .i64 0), (.int .i64 0), (.int .i64 0)], (.struct [(3, 0), (3, 1), (3, 2)])⟩ := rfl
@[go_sem] theorem look59 : look tab 59 = some ⟨3, 24, [(.int .i64 0), (.int .i64 0), (.int .i64 0)], (.struct [(3, 0), (3, 1), (3, 2)])⟩ := rfl
@[go_sem] theorem look62 : look tab 62 = some ⟨1, 8, [(.pointer none)], .flat⟩ := rfl
@[go_sem] theorem look89 : look tab 89 = some ⟨3, 24, [(.int .i64 0), (.int .i64 0), (.int .i64 0)], (.struct [(3, 0), (3, 1), (3, 2)])⟩ := rfl
@[go_sem] theorem look93 : look tab 93 = some ⟨1, 8, [(.int .u64 0)], (.int .u64)⟩ := rfl
@[go_sem] theorem look95 : look tab 95 = some ⟨4, 40, [(.pointer none), (.pointer none), (.pointer none), (.string .empty)], (.struct [(17, 0), (17, 1), (17, 2), (9, 3)])⟩ := rfl
@[go_sem] theorem look96 : look tab 96 = some ⟨4, 40, [(.pointer none), (.pointer none), (.pointer none), (.string .empty)], (.struct [(17, 0), (17, 1), (17, 2), (9, 3)])⟩ := rfl
@[go_sem] theorem look98 : look tab 98 = some ⟨0, 0, [], (.struct [(97, 0)])⟩ := rfl
@[go_sem] theorem look99 : look tab 99 = some ⟨0, 0, [], (.struct [(97, 0)])⟩ := rfl
@[go_sem] theorem look100 : look tab 100 = some ⟨1, 4, [(.int .u32 0)], (.int .u32)⟩ := rfl
@[go_sem] theorem look101 : look tab 101 = some ⟨1, 1, [(.int .u8 0)], (.int .u8)⟩ := rfl
@[go_sem] theorem look102 : look tab 102 = some ⟨1, 1, [(.int .u8 0)], (.int .u8)⟩ := rfl
@[go_sem] theorem look104 : look tab 104 = some ⟨1, 8, [(.pointer none)], .flat⟩ := rfl
@[go_sem] theorem look105 : look tab 105 = some ⟨1, 4, [(.int .i32 0)], (.int .i32)⟩ := rfl
@[go_sem] theorem look106 : look tab 106 = some ⟨1, 4, [(.int .i32 0)], (.int .i32)⟩ := rfl
theorem mixed : Try.prog.follows .mixedOrders = true := by kernel_rfl
end Go.TL.Ytjhcfmcdllfmpaa
