import Derived.Test.YtoabnifimfcbcaaTlAttr
import Derived.Test.YtoabnifimfcbcaaProg
import Derived.KernelRfl
set_option linter.unusedSimpArgs false
set_option linter.unusedVariables false
namespace Go.TL.Ytoabnifimfcbcaa
open Go Go.Proofs
theorem tab_cons {P : Program} {t : Nat} {e : TE} {r : Tab} (h : OkT P t e) (k : TabOk P r) : TabOk P ((t, e) :: r) := fun p hp => by
  rcases List.mem_cons.1 hp with rfl | hp
  · exact h
  · exact k p hp
theorem tab_nil {P : Program} : TabOk P [] := fun p hp => by cases hp
def tab : Tab := [(2, ⟨1, 8, [(.int .i64 0)], (.int .i64)⟩), (3, ⟨1, 8, [(.int .i64 0)], (.int .i64)⟩), (4, ⟨1, 1, [(.bool false)], .bool⟩), (5, ⟨1, 1, [(.int .u8 0)], (.int .u8)⟩), (6, ⟨1, 1, [(.int .u8 0)], (.int .u8)⟩), (7, ⟨4, 24, [(.int .i64 0), (.int .i64 0), (.bool false), (.int .u8 0)], (.struct [(2, 0), (3, 1), (4, 2), (6, 3)])⟩), (8, ⟨4, 24, [(.int .i64 0), (.int .i64 0), (.bool false), (.int .u8 0)], (.struct [(2, 0), (3, 1), (4, 2), (6, 3)])⟩), (9, ⟨1, 16, [(.string .empty)], .str⟩), (10, ⟨1, 16, [(.string .empty)], .str⟩), (11, ⟨1, 16, [(.string .empty)], .str⟩), (12, ⟨1, 8, [(.int .u64 0)], (.int .u64)⟩), (13, ⟨2, 24, [(.string .empty), (.int .u64 0)], (.struct [(9, 0), (12, 1)])⟩), (14, ⟨2, 24, [(.string .empty), (.int .u64 0)], (.struct [(9, 0), (12, 1)])⟩), (15, ⟨1, 8, [(.pointer none)], .flat⟩), (16, ⟨1, 8, [(.pointer none)], .flat⟩), (17, ⟨1, 8, [(.pointer none)], .flat⟩), (18, ⟨1, 8, [(.pointer none)], (.struct [(17, 0)])⟩), (19, ⟨1, 8, [(.pointer none)], (.struct [(17, 0)])⟩), (21, ⟨1, 4, [(.int .i32 0)], (.int .i32)⟩), (22, ⟨1, 24, [(.slice none 0 0)], (.slice 5)⟩), (23, ⟨1, 24, [(.slice none 0 0)], (.slice 3)⟩), (24, ⟨1, 24, [(.slice none 0 0)], (.slice 98)⟩), (27, ⟨4, 64, [(.slice none 0 0), (.slice none 0 0), (.int .i64 0), (.bool false)], (.struct [(23, 0), (24, 1), (3, 2), (4, 3)])⟩), (28, ⟨4, 64, [(.slice none 0 0), (.slice none 0 0), (.int .i64 0), (.bool false)], (.struct [(23, 0), (24, 1), (3, 2), (4, 3)])⟩), (44, ⟨1, 24, [(.slice none 0 0)], (.slice 146)⟩), (45, ⟨4, 64, [(.slice none 0 0), (.slice none 0 0), (.int .i64 0), (.bool false)], (.struct [(23, 0), (44, 1), (3, 2), (4, 3)])⟩), (46, ⟨4, 64, [(.slice none 0 0), (.slice none 0 0), (.int .i64 0), (.bool false)], (.struct [(23, 0), (44, 1), (3, 2), (4, 3)])⟩), (51, ⟨1, 24, [(.slice none 0 0)], (.slice 65)⟩), (54, ⟨1, 24, [(.slice none 0 0)], (.slice 9)⟩), (55, ⟨1, 24, [(.slice none 0 0)], (.slice 127)⟩), (56, ⟨5, 88, [(.int .i64 0), (.slice none 0 0), (.int .i64 0), (.slice none 0 0), (.slice none 0 0)], (.struct [(3, 0), (54, 1), (3, 2), (54, 3), (55, 4)])⟩), (57, ⟨5, 88, [(.int .i64 0), (.slice none 0 0), (.int .i64 0), (.slice none 0 0), (.slice none 0 0)], (.struct [(3, 0), (54, 1), (3, 2), (54, 3), (55, 4)])⟩), (58, ⟨1, 24, [(.slice none 0 0)], (.slice 4)⟩), (64, ⟨3, 32, [(.int .i64 0), (.int .i64 0), (.string .empty)], (.struct [(3, 0), (3, 1), (9, 2)])⟩), (65, ⟨3, 32, [(.int .i64 0), (.int .i64 0), (.string .empty)], (.struct [(3, 0), (3, 1), (9, 2)])⟩), (73, ⟨1, 24, [(.slice none 0 0)], (.slice 85)⟩), (82, ⟨1, 24, [(.slice none 0 0)], (.slice 160)⟩), (83, ⟨5, 88, [(.int .i64 0), (.slice none 0 0), (.int .i64 0), (.slice none 0 0), (.slice none 0 0)], (.struct [(3, 0), (54, 1), (3, 2), (54, 3), (82, 4)])⟩), (84, ⟨5, 88, [(.int .i64 0), (.slice none 0 0), (.int .i64 0), (.slice none 0 0), (.slice none 0 0)], (.struct [(3, 0), (54, 1), (3, 2), (54, 3), (82, 4)])⟩), (85, ⟨3, 32, [(.int .i64 0), (.int .i64 0), (.string .empty)], (.struct [(3, 0), (3, 1), (9, 2)])⟩), (91, ⟨1, 8, [(.pointer none)], .flat⟩), (92, ⟨1, 8, [(.int .u64 0)], (.int .u64)⟩), (93, ⟨3, 40, [(.slice none 0 0), (.int .i64 0), (.int .u64 0)], (.struct [(22, 0), (3, 1), (92, 2)])⟩), (94, ⟨3, 40, [(.slice none 0 0), (.int .i64 0), (.int .u64 0)], (.struct [(22, 0), (3, 1), (92, 2)])⟩), (97, ⟨3, 24, [(.int .i64 0), (.int .i64 0), (.int .i64 0)], (.struct [(3, 0), (3, 1), (3, 2)])⟩), (98, ⟨3, 24, [(.int .i64 0), (.int .i64 0), (.int .i64 0)], (.struct [(3, 0), (3, 1), (3, 2)])⟩), (101, ⟨1, 8, [(.pointer none)], .flat⟩), (126, ⟨3, 32, [(.bool false), (.int .i64 0), (.string .empty)], (.struct [(4, 0), (3, 1), (9, 2)])⟩), (127, ⟨3, 32, [(.bool false), (.int .i64 0), (.string .empty)], (.struct [(4, 0), (3, 1), (9, 2)])⟩), (146, ⟨3, 24, [(.int .i64 0), (.int .i64 0), (.int .i64 0)], (.struct [(3, 0), (3, 1), (3, 2)])⟩), (150, ⟨1, 8, [(.pointer none)], .flat⟩), (160, ⟨3, 32, [(.bool false), (.int .i64 0), (.string .empty)], (.struct [(4, 0), (3, 1), (9, 2)])⟩), (163, ⟨1, 8, [(.int .u64 0)], (.int .u64)⟩), (165, ⟨4, 40, [(.pointer none), (.pointer none), (.pointer none), (.string .empty)], (.struct [(17, 0), (17, 1), (17, 2), (9, 3)])⟩), (166, ⟨4, 40, [(.pointer none), (.pointer none), (.pointer none), (.string .empty)], (.struct [(17, 0), (17, 1), (17, 2), (9, 3)])⟩), (168, ⟨0, 0, [], (.struct [(167, 0)])⟩), (169, ⟨0, 0, [], (.struct [(167, 0)])⟩), (170, ⟨1, 4, [(.int .u32 0)], (.int .u32)⟩), (171, ⟨1, 1, [(.int .u8 0)], (.int .u8)⟩), (172, ⟨1, 1, [(.int .u8 0)], (.int .u8)⟩), (174, ⟨1, 8, [(.pointer none)], .flat⟩), (175, ⟨1, 4, [(.int .i32 0)], (.int .i32)⟩), (176, ⟨1, 4, [(.int .i32 0)], (.int .i32)⟩)]
theorem ok2 : OkT Try.prog 2 ⟨1, 8, [(.int .i64 0)], (.int .i64)⟩ := ⟨by kernel_rfl, by kernel_rfl⟩
theorem ok3 : OkT Try.prog 3 ⟨1, 8, [(.int .i64 0)], (.int .i64)⟩ := ⟨by kernel_rfl, by kernel_rfl⟩
theorem ok4 : OkT Try.prog 4 ⟨1, 1, [(.bool false)], .bool⟩ := ⟨by kernel_rfl, by kernel_rfl⟩
theorem ok5 : OkT Try.prog 5 ⟨1, 1, [(.int .u8 0)], (.int .u8)⟩ := ⟨by kernel_rfl, by kernel_rfl⟩
theorem ok6 : OkT Try.prog 6 ⟨1, 1, [(.int .u8 0)], (.int .u8)⟩ := ⟨by kernel_rfl, by kernel_rfl⟩
theorem ok7 : OkT Try.prog 7 ⟨4, 24, [(.int .i64 0), (.int .i64 0), (.bool false), (.int .u8 0)], (.struct [(2, 0), (3, 1), (4, 2), (6, 3)])⟩ := ⟨by kernel_rfl, by kernel_rfl⟩
theorem ok8 : OkT Try.prog 8 ⟨4, 24, [(.int .i64 0), (.int .i64 0), (.bool false), (.int .u8 0)], (.struct [(2, 0), (3, 1), (4, 2), (6, 3)])⟩ := ⟨by kernel_rfl, by kernel_rfl⟩
theorem ok9 : OkT Try.prog 9 ⟨1, 16, [(.string .empty)], .str⟩ := ⟨by kernel_rfl, by kernel_rfl⟩
theorem ok10 : OkT Try.prog 10 ⟨1, 16, [(.string .empty)], .str⟩ := ⟨by kernel_rfl, by kernel_rfl⟩
theorem ok11 : OkT Try.prog 11 ⟨1, 16, [(.string .empty)], .str⟩ := ⟨by kernel_rfl, by kernel_rfl⟩
theorem ok12 : OkT Try.prog 12 ⟨1, 8, [(.int .u64 0)], (.int .u64)⟩ := ⟨by kernel_rfl, by kernel_rfl⟩
theorem ok13 : OkT Try.prog 13 ⟨2, 24, [(.string .empty), (.int .u64 0)], (.struct [(9, 0), (12, 1)])⟩ := ⟨by kernel_rfl, by kernel_rfl⟩
theorem ok14 : OkT Try.prog 14 ⟨2, 24, [(.string .empty), (.int .u64 0)], (.struct [(9, 0), (12, 1)])⟩ := ⟨by kernel_rfl, by kernel_rfl⟩
theorem ok15 : OkT Try.prog 15 ⟨1, 8, [(.pointer none)], .flat⟩ := ⟨by kernel_rfl, by kernel_rfl⟩
theorem ok16 : OkT Try.prog 16 ⟨1, 8, [(.pointer none)], .flat⟩ := ⟨by kernel_rfl, by kernel_rfl⟩
theorem ok17 : OkT Try.prog 17 ⟨1, 8, [(.pointer none)], .flat⟩ := ⟨by kernel_rfl, by kernel_rfl⟩
theorem ok18 : OkT Try.prog 18 ⟨1, 8, [(.pointer none)], (.struct [(17, 0)])⟩ := ⟨by kernel_rfl, by kernel_rfl⟩
theorem ok19 : OkT Try.prog 19 ⟨1, 8, [(.pointer none)], (.struct [(17, 0)])⟩ := ⟨by kernel_rfl, by kernel_rfl⟩
theorem ok21 : OkT Try.prog 21 ⟨1, 4, [(.int .i32 0)], (.int .i32)⟩ := ⟨by kernel_rfl, by kernel_rfl⟩
theorem ok22 : OkT Try.prog 22 ⟨1, 24, [(.slice none 0 0)], (.slice 5)⟩ := ⟨by kernel_rfl, by kernel_rfl⟩
theorem ok23 : OkT Try.prog 23 ⟨1, 24, [(.slice none 0 0)], (.slice 3)⟩ := ⟨by kernel_rfl, by kernel_rfl⟩
theorem ok24 : OkT Try.prog 24 ⟨1, 24, [(.slice none 0 0)], (.slice 98)⟩ := ⟨by kernel_rfl, by kernel_rfl⟩
theorem ok27 : OkT Try.prog 27 ⟨4, 64, [(.slice none 0 0), (.slice none 0 0), (.int .i64 0), (.bool false)], (.struct [(23, 0), (24, 1), (3, 2), (4, 3)])⟩ := ⟨by kernel_rfl, by kernel_rfl⟩
theorem ok28 : OkT Try.prog 28 ⟨4, 64, [(.slice none 0 0), (.slice none 0 0), (.int .i64 0), (.bool false)], (.struct [(23, 0), (24, 1), (3, 2), (4, 3)])⟩ := ⟨by kernel_rfl, by kernel_rfl⟩
theorem ok44 : OkT Try.prog 44 ⟨1, 24, [(.slice none 0 0)], (.slice 146)⟩ := ⟨by kernel_rfl, by kernel_rfl⟩
theorem ok45 : OkT Try.prog 45 ⟨4, 64, [(.slice none 0 0), (.slice none 0 0), (.int .i64 0), (.bool false)], (.struct [(23, 0), (44, 1), (3, 2), (4, 3)])⟩ := ⟨by kernel_rfl, by kernel_rfl⟩
theorem ok46 : OkT Try.prog 46 ⟨4, 64, [(.slice none 0 0), (.slice none 0 0), (.int .i64 0), (.bool false)], (.struct [(23, 0), (44, 1), (3, 2), (4, 3)])⟩ := ⟨by kernel_rfl, by kernel_rfl⟩
theorem ok51 : OkT Try.prog 51 ⟨1, 24, [(.slice none 0 0)], (.slice 65)⟩ := ⟨by kernel_rfl, by kernel_rfl⟩
theorem ok54 : OkT Try.prog 54 ⟨1, 24, [(.slice none 0 0)], (.slice 9)⟩ := ⟨by kernel_rfl, by kernel_rfl⟩
theorem ok55 : OkT Try.prog 55 ⟨1, 24, [(.slice none 0 0)], (.slice 127)⟩ := ⟨by kernel_rfl, by kernel_rfl⟩
theorem ok56 : OkT Try.prog 56 ⟨5, 88, [(.int .i64 0), (.slice none 0 0), (.int .i64 0), (.slice none 0 0), (.slice none 0 0)], (.struct [(3, 0), (54, 1), (3, 2), (54, 3), (55, 4)])⟩ := ⟨by kernel_rfl, by kernel_rfl⟩
theorem ok57 : OkT Try.prog 57 ⟨5, 88, [(.int .i64 0), (.slice none 0 0), (.int .i64 0), (.slice none 0 0), (.slice none 0 0)], (.struct [(3, 0), (54, 1), (3, 2), (54, 3), (55, 4)])⟩ := ⟨by kernel_rfl, by kernel_rfl⟩
theorem ok58 : OkT Try.prog 58 ⟨1, 24, [(.slice none 0 0)], (.slice 4)⟩ := ⟨by kernel_rfl, by kernel_rfl⟩
theorem ok64 : OkT Try.prog 64 ⟨3, 32, [(.int .i64 0), (.int .i64 0), (.string .empty)], (.struct [(3, 0), (3, 1), (9, 2)])⟩ := ⟨by kernel_rfl, by kernel_rfl⟩
theorem ok65 : OkT Try.prog 65 ⟨3, 32, [(.int .i64 0), (.int .i64 0), (.string .empty)], (.struct [(3, 0), (3, 1), (9, 2)])⟩ := ⟨by kernel_rfl, by kernel_rfl⟩
theorem ok73 : OkT Try.prog 73 ⟨1, 24, [(.slice none 0 0)], (.slice 85)⟩ := ⟨by kernel_rfl, by kernel_rfl⟩
theorem ok82 : OkT Try.prog 82 ⟨1, 24, [(.slice none 0 0)], (.slice 160)⟩ := ⟨by kernel_rfl, by kernel_rfl⟩
theorem ok83 : OkT Try.prog 83 ⟨5, 88, [(.int .i64 0), (.slice none 0 0), (.int .i64 0), (.slice none 0 0), (.slice none 0 0)], (.struct [(3, 0), (54, 1), (3, 2), (54, 3), (82, 4)])⟩ := ⟨by kernel_rfl, by kernel_rfl⟩
theorem ok84 : OkT Try.prog 84 ⟨5, 88, [(.int .i64 0), (.slice none 0 0), (.int .i64 0), (.slice none 0 0), (.slice none 0 0)], (.struct [(3, 0), (54, 1), (3, 2), (54, 3), (82, 4)])⟩ := ⟨by kernel_rfl, by kernel_rfl⟩
theorem ok85 : OkT Try.prog 85 ⟨3, 32, [(.int .i64 0), (.int .i64 0), (.string .empty)], (.struct [(3, 0), (3, 1), (9, 2)])⟩ := ⟨by kernel_rfl, by kernel_rfl⟩
theorem ok91 : OkT Try.prog 91 ⟨1, 8, [(.pointer none)], .flat⟩ := ⟨by kernel_rfl, by kernel_rfl⟩
theorem ok92 : OkT Try.prog 92 ⟨1, 8, [(.int .u64 0)], (.int .u64)⟩ := ⟨by kernel_rfl, by kernel_rfl⟩
theorem ok93 : OkT Try.prog 93 ⟨3, 40, [(.slice none 0 0), (.int .i64 0), (.int .u64 0)], (.struct [(22, 0), (3, 1), (92, 2)])⟩ := ⟨by kernel_rfl, by kernel_rfl⟩
theorem ok94 : OkT Try.prog 94 ⟨3, 40, [(.slice none 0 0), (.int .i64 0), (.int .u64 0)], (.struct [(22, 0), (3, 1), (92, 2)])⟩ := ⟨by kernel_rfl, by kernel_rfl⟩
theorem ok97 : OkT Try.prog 97 ⟨3, 24, [(.int .i64 0), (.int .i64 0), (.int .i64 0)], (.struct [(3, 0), (3, 1), (3, 2)])⟩ := ⟨by kernel_rfl, by kernel_rfl⟩
theorem ok98 : OkT Try.prog 98 ⟨3, 24, [(.int .i64 0), (.int .i64 0), (.int .i64 0)], (.struct [(3, 0), (3, 1), (3, 2)])⟩ := ⟨by kernel_rfl, by kernel_rfl⟩
theorem ok101 : OkT Try.prog 101 ⟨1, 8, [(.pointer none)], .flat⟩ := ⟨by kernel_rfl, by kernel_rfl⟩
theorem ok126 : OkT Try.prog 126 ⟨3, 32, [(.bool false), (.int .i64 0), (.string .empty)], (.struct [(4, 0), (3, 1), (9, 2)])⟩ := ⟨by kernel_rfl, by kernel_rfl⟩
theorem ok127 : OkT Try.prog 127 ⟨3, 32, [(.bool false), (.int .i64 0), (.string .empty)], (.struct [(4, 0), (3, 1), (9, 2)])⟩ := ⟨by kernel_rfl, by kernel_rfl⟩
theorem ok146 : OkT Try.prog 146 ⟨3, 24, [(.int .i64 0), (.int .i64 0), (.int .i64 0)], (.struct [(3, 0), (3, 1), (3, 2)])⟩ := ⟨by kernel_rfl, by kernel_rfl⟩
theorem ok150 : OkT Try.prog 150 ⟨1, 8, [(.pointer none)], .flat⟩ := ⟨by kernel_rfl, by kernel_rfl⟩
theorem ok160 : OkT Try.prog 160 ⟨3, 32, [(.bool false), (.int .i64 0), (.string .empty)], (.struct [(4, 0), (3, 1), (9, 2)])⟩ := ⟨by kernel_rfl, by kernel_rfl⟩
theorem ok163 : OkT Try.prog 163 ⟨1, 8, [(.int .u64 0)], (.int .u64)⟩ := ⟨by kernel_rfl, by kernel_rfl⟩
theorem ok165 : OkT Try.prog 165 ⟨4, 40, [(.pointer none), (.pointer none), (.pointer none), (.string .empty)], (.struct [(17, 0), (17, 1), (17, 2), (9, 3)])⟩ := ⟨by kernel_rfl, by kernel_rfl⟩
theorem ok166 : OkT Try.prog 166 ⟨4, 40, [(.pointer none), (.pointer none), (.pointer none), (.string .empty)], (.struct [(17, 0), (17, 1), (17, 2), (9, 3)])⟩ := ⟨by kernel_rfl, by kernel_rfl⟩
theorem ok168 : OkT Try.prog 168 ⟨0, 0, [], (.struct [(167, 0)])⟩ := ⟨by kernel_rfl, by kernel_rfl⟩
theorem ok169 : OkT Try.prog 169 ⟨0, 0, [], (.struct [(167, 0)])⟩ := ⟨by kernel_rfl, by kernel_rfl⟩
theorem ok170 : OkT Try.prog 170 ⟨1, 4, [(.int .u32 0)], (.int .u32)⟩ := ⟨by kernel_rfl, by kernel_rfl⟩
theorem ok171 : OkT Try.prog 171 ⟨1, 1, [(.int .u8 0)], (.int .u8)⟩ := ⟨by kernel_rfl, by kernel_rfl⟩
theorem ok172 : OkT Try.prog 172 ⟨1, 1, [(.int .u8 0)], (.int .u8)⟩ := ⟨by kernel_rfl, by kernel_rfl⟩
theorem ok174 : OkT Try.prog 174 ⟨1, 8, [(.pointer none)], .flat⟩ := ⟨by kernel_rfl, by kernel_rfl⟩
theorem ok175 : OkT Try.prog 175 ⟨1, 4, [(.int .i32 0)], (.int .i32)⟩ := ⟨by kernel_rfl, by kernel_rfl⟩
theorem ok176 : OkT Try.prog 176 ⟨1, 4, [(.int .i32 0)], (.int .i32)⟩ := ⟨by kernel_rfl, by kernel_rfl⟩
theorem tab_ok : TabOk Try.prog tab := tab_cons ok2 <| tab_cons ok3 <| tab_cons ok4 <| tab_cons ok5 <| tab_cons ok6 <| tab_cons ok7 <| tab_cons ok8 <| tab_cons ok9 <| tab_cons ok10 <| tab_cons ok11 <| tab_cons ok12 <| tab_cons ok13 <| tab_cons ok14 <| tab_cons ok15 <| tab_cons ok16 <| tab_cons ok17 <| tab_cons ok18 <| tab_cons ok19 <| tab_cons ok21 <| tab_cons ok22 <| tab_cons ok23 <| tab_cons ok24 <| tab_cons ok27 <| tab_cons ok28 <| tab_cons ok44 <| tab_cons ok45 <| tab_cons ok46 <| tab_cons ok51 <| tab_cons ok54 <| tab_cons ok55 <| tab_cons ok56 <| tab_cons ok57 <| tab_cons ok58 <| tab_cons ok64 <| tab_cons ok65 <| tab_cons ok73 <| tab_cons ok82 <| tab_cons ok83 <| tab_cons ok84 <| tab_cons ok85 <| tab_cons ok91 <| tab_cons ok92 <| tab_cons ok93 <| tab_cons ok94 <| tab_cons ok97 <| tab_cons ok98 <| tab_cons ok101 <| tab_cons ok126 <| tab_cons ok127 <| tab_cons ok146 <| tab_cons ok150 <| tab_cons ok160 <| tab_cons ok163 <| tab_cons ok165 <| tab_cons ok166 <| tab_cons ok168 <| tab_cons ok169 <| tab_cons ok170 <| tab_cons ok171 <| tab_cons ok172 <| tab_cons ok174 <| tab_cons ok175 <| tab_cons ok176 <| tab_nil
@[go_sem] theorem look2 : look tab 2 = some ⟨1, 8, [(.int .i64 0)], (.int .i64)⟩ := rfl
@[go_sem] theorem look3 : look tab 3 = some ⟨1, 8, [(.int .i64 0)], (.int .i64)⟩ := rfl
@[go_sem] theorem look4 : look tab 4 = some ⟨1, 1, [(.bool false)], .bool⟩ := rfl
@[go_sem] theorem look5 : look tab 5 = some ⟨1, 1, [(.int .u8 0)], (.int .u8)⟩ := rfl
@[go_sem] theorem look6 : look tab 6 = some ⟨1, 1, [(.int .u8 0)], (.int .u8)⟩ := rfl
@[go_sem] theorem look7 : look tab 7 = some ⟨4, 24, [(.int .i64 0), (.int .i64 0), (.bool false), (.int .u8 0)], (.struct [(2, 0), (3, 1), (4, 2), (6, 3)])⟩ := rfl
@[go_sem] theorem look8 : look tab 8 = some ⟨4, 24, [(.int .i64 0), (.int .i64 0), (.bool false), (.int .u8 0)], (.struct [(2, 0), (3, 1), (4, 2), (6, 3)])⟩ := rfl
@[go_sem] theorem look9 : look tab 9 = some ⟨1, 16, [(.string .empty)], .str⟩ := rfl
@[go_sem] theorem look10 : look tab 10 = some ⟨1, 16, [(.string .empty)], .str⟩ := rfl
@[go_sem] theorem look11 : look tab 11 = some ⟨1, 16, [(.string .empty)], .str⟩ := rfl
@[go_sem] theorem look12 : look tab 12 = some ⟨1, 8, [(.int .u64 0)], (.int .u64)⟩ := rfl
@[go_sem] theorem look13 : look tab 13 = some ⟨2, 24, [(.string .empty), (.int .u64 0)], (.struct [(9, 0), (12, 1)])⟩ := rfl
@[go_sem] theorem look14 : look tab 14 = some ⟨2, 24, [(.string .empty), (.int .u64 0)], (.struct [(9, 0), (12, 1)])⟩ := rfl
@[go_sem] theorem look15 : look tab 15 = some ⟨1, 8, [(.pointer none)], .flat⟩ := rfl
@[go_sem] theorem look16 : look tab 16 = some ⟨1, 8, [(.pointer none)], .flat⟩ := rfl
@[go_sem] theorem look17 : look tab 17 = some ⟨1, 8, [(.pointer none)], .flat⟩ := rfl
@[go_sem] theorem look18 : look tab 18 = some ⟨1, 8, [(.pointer none)], (.struct [(17, 0)])⟩ := rfl
@[go_sem] theorem look19 : look tab 19 = some ⟨1, 8, [(.pointer none)], (.struct [(17, 0)])⟩ := rfl
@[go_sem] theorem look21 : look tab 21 = some ⟨1, 4, [(.int .i32 0)], (.int .i32)⟩ := rfl
@[go_sem] theorem look22 : look tab 22 = some ⟨1, 24, [(.slice none 0 0)], (.slice 5)⟩ := rfl
@[go_sem] theorem look23 : look tab 23 = some ⟨1, 24, [(.slice none 0 0)], (.slice 3)⟩ := rfl
@[go_sem] theorem look24 : look tab 24 = some ⟨1, 24, [(.slice none 0 0)], (.slice 98)⟩ := rfl
@[go_sem] theorem look27 : look tab 27 = some ⟨4, 64, [(.slice none 0 0), (.slice none 0 0), (.int .i64 0), (.bool false)], (.struct [(23, 0), (24, 1), (3, 2), (4, 3)])⟩ := rfl
@[go_sem] theorem look28 : look tab 28 = some ⟨4, 64, [(.slice none 0 0), (.slice none 0 0), (.int .i64 0), (.bool false)], (.struct [(23, 0), (24, 1), (3, 2), (4, 3)])⟩ := rfl
@[go_sem] theorem look44 : look tab 44 = some ⟨1, 24, [(.slice none 0 0)], (.slice 146)⟩ := rfl
@[go_sem] theorem look45 : look tab 45 = some ⟨4, 64, [(.slice none 0 0), (.slice none 0 0), (.int .i64 0), (.bool false)], (.struct [(23, 0), (44, 1), (3, 2), (4, 3)])⟩ := rfl
@[go_sem] theorem look46 : look tab 46 = some ⟨4, 64, [(.slice none 0 0), (.slice none 0 0), (.int .i64 0), (.bool false)], (.struct [(23, 0), (44, 1), (3, 2), (4, 3)])⟩ := rfl
@[go_sem] theorem look51 : look tab 51 = some ⟨1, 24, [(.slice none 0 0)], (.slice 65)⟩ := rfl
@[go_sem] theorem look54 : look tab 54 = some ⟨1, 24, [(.slice none 0 0)], (.slice 9)⟩ := rfl
@[go_sem] theorem look55 : look tab 55 = some ⟨1, 24, [(.slice none 0 0)], (.slice 127)⟩ := rfl
@[go_sem] theorem look56 : look tab 56 = some ⟨5, 88, [(.int .i64 0), (.slice none 0 0), (.int .i64 0), (.slice none 0 0), (.slice none 0 0)], (.struct [(3, 0), (54, 1), (3, 2), (54, 3), (55, 4)])⟩ := rfl
@[go_sem] theorem look57 : look tab 57 = some ⟨5, 88, [(.int .i64 0), (.slice none 0 0), (.int .i64 0), (.slice none 0 0), (.slice none 0 0)], (.struct [(3, 0), (54, 1), (3, 2), (54, 3), (55, 4)])⟩ := rfl
@[go_sem] theorem look58 : look tab 58 = some ⟨1, 24, [(.slice none 0 0)], (.slice 4)⟩ := rfl
@[go_sem] theorem look64 : look tab 64 = some ⟨3, 32, [(.int .i64 0), (.int .i64 0), (.string .empty)], (.struct [(3, 0), (3, 1), (9, 2)])⟩ := rfl
@[go_sem] theorem look65 : look tab 65 = some ⟨3, 32, [(.int .i64 0), (.int .i64 0), (.string .empty)], (.struct [(3, 0), (3, 1), (9, 2)])⟩ := rfl
@[go_sem] theorem look73 : look tab 73 = some ⟨1, 24, [(.slice none 0 0)], (.slice 85)⟩ := rfl
@[go_sem] theorem look82 : look tab 82 = some ⟨1, 24, [(.slice none 0 0)], (.slice 160)⟩ := rfl
@[go_sem] theorem look83 : look tab 83 = some ⟨5, 88, [(.int .i64 0), (.slice none 0 0), (.int .i64 0), (.slice none 0 0), (.slice none 0 0)], (.struct [(3, 0), (54, 1), (3, 2), (54, 3), (82, 4)])⟩ := rfl
@[go_sem] theorem look84 : look tab 84 = some ⟨5, 88, [(.int .i64 0), (.slice none 0 0), (.int .i64 0), (.slice none 0 0), (.slice none 0 0)], (.struct [(3, 0), (54, 1), (3, 2), (54, 3), (82, 4)])⟩ := rfl
@[go_sem] theorem look85 : look tab 85 = some ⟨3, 32, [(.int .i64 0), (.int .i64 0), (.string .empty)], (.struct [(3, 0), (3, 1), (9, 2)])⟩ := rfl
@[go_sem] theorem look91 : look tab 91 = some ⟨1, 8, [(.pointer none)], .flat⟩ := rfl
@[go_sem] theorem look92 : look tab 92 = some ⟨1, 8, [(.int .u64 0)], (.int .u64)⟩ := rfl
@[go_sem] theorem look93 : look tab 93 = some ⟨3, 40, [(.slice none 0 0), (.int .i64 0), (.int .u64 0)], (.struct [(22, 0), (3, 1), (92, 2)])⟩ := rfl
@[go_sem] theorem look94 : look tab 94 = some ⟨3, 40, [(.slice none 0 0), (.int .i64 0), (.int .u64 0)], (.struct [(22, 0), (3, 1), (92, 2)])⟩ := rfl
@[go_sem] theorem look97 : look tab 97 = some ⟨3, 24, [(.int .i64 0), (.int .i64 0), (.int .i64 0)], (.struct [(3, 0), (3, 1), (3, 2)])⟩ := rfl
@[go_sem] theorem look98 : look tab 98 = some ⟨3, 24, [(.int .i64 0), (.int .i64 0), (.int .i64 0)], (.struct [(3, 0), (3, 1), (3, 2)])⟩ := rfl
@[go_sem] theorem look101 : look tab 101 = some ⟨1, 8, [(.pointer none)], .flat⟩ := rfl
@[go_sem] theorem look126 : look tab 126 = some ⟨3, 32, [(.bool false), (.int .i64 0), (.string .empty)], (.struct [(4, 0), (3, 1), (9, 2)])⟩ := rfl
@[go_sem] theorem look127 : look tab 127 = some ⟨3, 32, [(.bool false), (.int .i64 0), (.string .empty)], (.struct [(4, 0), (3, 1), (9, 2)])⟩ := rfl
@[go_sem] theorem look146 : look tab 146 = some ⟨3, 24, [(.int .i64 0), (.int .i64 0), (.int .i64 0)], (.struct [(3, 0), (3, 1), (3, 2)])⟩ := rfl
@[go_sem] theorem look150 : look tab 150 = some ⟨1, 8, [(.pointer none)], .flat⟩ := rfl
@[go_sem] theorem look160 : look tab 160 = some ⟨3, 32, [(.bool false), (.int .i64 0), (.string .empty)], (.struct [(4, 0), (3, 1), (9, 2)])⟩ := rfl
@[go_sem] theorem look163 : look tab 163 = some ⟨1, 8, [(.int .u64 0)], (.int .u64)⟩ := rfl
@[go_sem] theorem look165 : look tab 165 = some ⟨4, 40, [(.pointer none), (.pointer none), (.pointer none), (.string .empty)], (.struct [(17, 0), (17, 1), (17, 2), (9, 3)])⟩ := rfl
@[go_sem] theorem look166 : look tab 166 = some ⟨4, 40, [(.pointer none), (.pointer none), (.pointer none), (.string .empty)], (.struct [(17, 0), (17, 1), (17, 2), (9, 3)])⟩ := rfl
@[go_sem] theorem look168 : look tab 168 = some ⟨0, 0, [], (.struct [(167, 0)])⟩ := rfl
@[go_sem] theorem look169 : look tab 169 = some ⟨0, 0, [], (.struct [(167, 0)])⟩ := rfl
@[go_sem] theorem look170 : look tab 170 = some ⟨1, 4, [(.int .u32 0)], (.int .u32)⟩ := rfl
@[go_sem] theorem look171 : look tab 171 = some ⟨1, 1, [(.int .u8 0)], (.int .u8)⟩ := rfl
@[go_sem] theorem look172 : look tab 172 = some ⟨1, 1, [(.int .u8 0)], (.int .u8)⟩ := rfl
@[go_sem] theorem look174 : look tab 174 = some ⟨1, 8, [(.pointer none)], .flat⟩ := rfl
@[go_sem] theorem look175 : look tab 175 = some ⟨1, 4, [(.int .i32 0)], (.int .i32)⟩ := rfl
@[go_sem] theorem look176 : look tab 176 = some ⟨1, 4, [(.int .i32 0)], (.int .i32)⟩ := rfl
theorem mixed : Try.prog.follows .mixedOrders = true := by kernel_rfl
end Go.TL.Ytoabnifimfcbcaa
