import Derived.Test.YteonagfnhdlfcaaGreatDoorTlAttr
import Derived.Test.YteonagfnhdlfcaaGreatDoorProg
import Derived.KernelRfl
set_option linter.unusedSimpArgs false
set_option linter.unusedVariables false
noncomputable section
namespace Go.TL.YteonagfnhdlfcaaGreatDoor
open Go Go.Proofs
theorem zz7 {P:Program} {t:Nat} {e:TE} {r:Tab} (h:OkT P t e) (k:zmE P r):zmE P ((t, e) :: r):=λ p hp=>by
 rcases List.mem_cons.1 hp with rfl | hp
 ·exact h
 ·exact k p hp
theorem zBs {P:Program}:zmE P []:=λ p hp=>by cases hp
def tab:Tab:=[(2, ⟨1, 8, [(.int .i64 0)], (.int .i64)⟩), (3, ⟨1, 8, [(.int .i64 0)], (.int .i64)⟩), (4, ⟨1, 1, [(.bool false)], .bool⟩), (5, ⟨1, 1, [(.int .u8 0)], (.int .u8)⟩), (6, ⟨1, 1, [(.int .u8 0)], (.int .u8)⟩), (7, ⟨4, 24, [(.int .i64 0), (.int .i64 0), (.bool false), (.int .u8 0)], (.struct [(2, 0), (3, 1), (4, 2), (6, 3)])⟩), (8, ⟨4, 24, [(.int .i64 0), (.int .i64 0), (.bool false), (.int .u8 0)], (.struct [(2, 0), (3, 1), (4, 2), (6, 3)])⟩), (9, ⟨1, 16, [(.string .empty)], .str⟩), (10, ⟨1, 16, [(.string .empty)], .str⟩), (11, ⟨1, 16, [(.string .empty)], .str⟩), (12, ⟨1, 8, [(.int .u64 0)], (.int .u64)⟩), (13, ⟨2, 24, [(.string .empty), (.int .u64 0)], (.struct [(9, 0), (12, 1)])⟩), (14, ⟨2, 24, [(.string .empty), (.int .u64 0)], (.struct [(9, 0), (12, 1)])⟩), (15, ⟨1, 8, [(.pointer none)], .flat⟩), (16, ⟨1, 8, [(.pointer none)], .flat⟩), (17, ⟨1, 8, [(.pointer none)], .flat⟩), (18, ⟨1, 8, [(.pointer none)], (.struct [(17, 0)])⟩), (19, ⟨1, 8, [(.pointer none)], (.struct [(17, 0)])⟩), (21, ⟨1, 4, [(.int .i32 0)], (.int .i32)⟩), (22, ⟨1, 24, [(.slice none 0 0)], (.slice 5)⟩), (23, ⟨1, 24, [(.slice none 0 0)], (.slice 38)⟩), (24, ⟨1, 24, [(.slice none 0 0)], (.struct [(23, 0)])⟩), (25, ⟨1, 24, [(.slice none 0 0)], (.struct [(23, 0)])⟩), (26, ⟨3, 40, [(.int .i64 0), (.int .i64 0), (.slice none 0 0)], (.struct [(3, 0), (3, 1), (25, 2)])⟩), (27, ⟨3, 40, [(.int .i64 0), (.int .i64 0), (.slice none 0 0)], (.struct [(3, 0), (3, 1), (25, 2)])⟩), (28, ⟨2, 32, [(.int .i64 0), (.slice none 0 0)], (.struct [(3, 0), (25, 1)])⟩), (29, ⟨2, 32, [(.int .i64 0), (.slice none 0 0)], (.struct [(3, 0), (25, 1)])⟩), (36, ⟨1, 24, [(.slice none 0 0)], (.slice 135)⟩), (37, ⟨1, 24, [(.slice none 0 0)], (.struct [(36, 0)])⟩), (38, ⟨1, 24, [(.slice none 0 0)], (.struct [(36, 0)])⟩), (44, ⟨1, 24, [(.slice none 0 0)], (.slice 9)⟩), (50, ⟨1, 24, [(.slice none 0 0)], (.slice 231)⟩), (51, ⟨1, 24, [(.slice none 0 0)], (.struct [(50, 0)])⟩), (52, ⟨1, 24, [(.slice none 0 0)], (.struct [(50, 0)])⟩), (53, ⟨3, 40, [(.int .i64 0), (.int .i64 0), (.slice none 0 0)], (.struct [(3, 0), (3, 1), (52, 2)])⟩), (54, ⟨3, 40, [(.int .i64 0), (.int .i64 0), (.slice none 0 0)], (.struct [(3, 0), (3, 1), (52, 2)])⟩), (59, ⟨1, 24, [(.slice none 0 0)], (.slice 128)⟩), (61, ⟨1, 24, [(.slice none 0 0)], (.slice 27)⟩), (62, ⟨1, 24, [(.slice none 0 0)], (.slice 133)⟩), (63, ⟨2, 48, [(.slice none 0 0), (.slice none 0 0)], (.struct [(61, 0), (62, 1)])⟩), (64, ⟨2, 48, [(.slice none 0 0), (.slice none 0 0)], (.struct [(61, 0), (62, 1)])⟩), (65, ⟨1, 24, [(.slice none 0 0)], (.slice 3)⟩), (70, ⟨1, 24, [(.slice none 0 0)], (.slice 74)⟩), (73, ⟨2, 16, [(.int .i64 0), (.int .i64 0)], (.struct [(3, 0), (3, 1)])⟩), (74, ⟨2, 16, [(.int .i64 0), (.int .i64 0)], (.struct [(3, 0), (3, 1)])⟩), (81, ⟨1, 24, [(.slice none 0 0)], (.slice 54)⟩), (82, ⟨1, 24, [(.slice none 0 0)], (.slice 197)⟩), (83, ⟨2, 48, [(.slice none 0 0), (.slice none 0 0)], (.struct [(81, 0), (82, 1)])⟩), (84, ⟨2, 48, [(.slice none 0 0), (.slice none 0 0)], (.struct [(81, 0), (82, 1)])⟩), (91, ⟨1, 24, [(.slice none 0 0)], (.slice 158)⟩), (98, ⟨1, 8, [(.pointer none)], .flat⟩), (99, ⟨1, 8, [(.int .u64 0)], (.int .u64)⟩), (100, ⟨3, 40, [(.slice none 0 0), (.int .i64 0), (.int .u64 0)], (.struct [(22, 0), (3, 1), (99, 2)])⟩), (101, ⟨3, 40, [(.slice none 0 0), (.int .i64 0), (.int .u64 0)], (.struct [(22, 0), (3, 1), (99, 2)])⟩), (127, ⟨5, 48, [(.int .i64 0), (.int .i64 0), (.int .i64 0), (.string .empty), (.int .i64 0)], (.struct [(3, 0), (3, 1), (3, 2), (9, 3), (3, 4)])⟩), (128, ⟨5, 48, [(.int .i64 0), (.int .i64 0), (.int .i64 0), (.string .empty), (.int .i64 0)], (.struct [(3, 0), (3, 1), (3, 2), (9, 3), (3, 4)])⟩), (132, ⟨3, 40, [(.int .i64 0), (.int .i64 0), (.slice none 0 0)], (.struct [(3, 0), (29, 1)])⟩), (133, ⟨3, 40, [(.int .i64 0), (.int .i64 0), (.slice none 0 0)], (.struct [(3, 0), (29, 1)])⟩), (134, ⟨4, 40, [(.int .i64 0), (.int .i64 0), (.int .i64 0), (.string .empty)], (.struct [(3, 0), (3, 1), (3, 2), (9, 3)])⟩), (135, ⟨4, 40, [(.int .i64 0), (.int .i64 0), (.int .i64 0), (.string .empty)], (.struct [(3, 0), (3, 1), (3, 2), (9, 3)])⟩), (152, ⟨1, 8, [(.pointer none)], .flat⟩), (158, ⟨5, 48, [(.int .i64 0), (.int .i64 0), (.int .i64 0), (.string .empty), (.int .i64 0)], (.struct [(3, 0), (3, 1), (3, 2), (9, 3), (3, 4)])⟩), (182, ⟨1, 8, [(.pointer none)], .flat⟩), (188, ⟨6, 80, [(.int .i64 0), (.int .i64 0), (.bool false), (.int .i64 0), (.slice none 0 0), (.slice none 0 0)], (.struct [(3, 0), (3, 1), (4, 2), (3, 3), (44, 4), (44, 5)])⟩), (189, ⟨6, 80, [(.int .i64 0), (.int .i64 0), (.bool false), (.int .i64 0), (.slice none 0 0), (.slice none 0 0)], (.struct [(3, 0), (3, 1), (4, 2), (3, 3), (44, 4), (44, 5)])⟩), (194, ⟨2, 32, [(.int .i64 0), (.slice none 0 0)], (.struct [(3, 0), (52, 1)])⟩), (195, ⟨2, 32, [(.int .i64 0), (.slice none 0 0)], (.struct [(3, 0), (52, 1)])⟩), (196, ⟨3, 40, [(.int .i64 0), (.int .i64 0), (.slice none 0 0)], (.struct [(3, 0), (195, 1)])⟩), (197, ⟨3, 40, [(.int .i64 0), (.int .i64 0), (.slice none 0 0)], (.struct [(3, 0), (195, 1)])⟩), (205, ⟨1, 8, [(.int .u64 0)], (.int .u64)⟩), (229, ⟨1, 24, [(.slice none 0 0)], (.slice 280)⟩), (230, ⟨1, 24, [(.slice none 0 0)], (.struct [(229, 0)])⟩), (231, ⟨1, 24, [(.slice none 0 0)], (.struct [(229, 0)])⟩), (249, ⟨1, 8, [(.int .i64 0)], (.int .i64)⟩), (257, ⟨1, 4, [(.int .u32 0)], (.int .u32)⟩), (267, ⟨1, 8, [(.pointer none)], .flat⟩), (271, ⟨1, 8, [(.pointer none)], .flat⟩), (273, ⟨1, 8, [(.int .u64 0)], (.int .u64)⟩), (277, ⟨1, 8, [(.pointer none)], .flat⟩), (280, ⟨4, 40, [(.int .i64 0), (.int .i64 0), (.int .i64 0), (.string .empty)], (.struct [(3, 0), (3, 1), (3, 2), (9, 3)])⟩), (296, ⟨1, 8, [(.pointer none)], .flat⟩), (305, ⟨2, 2, [(.int .u8 0), (.int .u8 0)], (.struct [(5, 0), (5, 1)])⟩), (306, ⟨2, 2, [(.int .u8 0), (.int .u8 0)], (.struct [(5, 0), (5, 1)])⟩), (311, ⟨4, 40, [(.pointer none), (.pointer none), (.pointer none), (.string .empty)], (.struct [(17, 0), (17, 1), (17, 2), (9, 3)])⟩), (312, ⟨4, 40, [(.pointer none), (.pointer none), (.pointer none), (.string .empty)], (.struct [(17, 0), (17, 1), (17, 2), (9, 3)])⟩), (314, ⟨0, 0, [], (.struct [(313, 0)])⟩), (315, ⟨0, 0, [], (.struct [(313, 0)])⟩), (316, ⟨1, 1, [(.int .u8 0)], (.int .u8)⟩), (317, ⟨1, 1, [(.int .u8 0)], (.int .u8)⟩), (319, ⟨1, 8, [(.pointer none)], .flat⟩), (320, ⟨1, 4, [(.int .i32 0)], (.int .i32)⟩), (321, ⟨1, 4, [(.int .i32 0)], (.int .i32)⟩)]
theorem zCU {P:Program} {t:Nat} {e:TE} {r:Tab} (k:zmE P r) (a:(P.info? t).map (λ i=>(i.size, i.bytes, i.zero.map λ v=>v.cells.toList))=some (e.size, e.bytes, some e.zero)) (c:(P.underlying t).map znx=some e.sh):zmE P ((t, e) :: r):=zz7 ⟨a, c⟩ k
theorem zCq:zmE Tryz.prog tab:=by
 unfold tab
 iterate 92 refine zCU ?_ (by kernel_rfl) (by kernel_rfl)
 exact zBs
@[go_sem] theorem zFP:zli tab 2=some ⟨1, 8, [(.int .i64 0)], (.int .i64)⟩:=rfl
@[go_sem] theorem zFQ:zli tab 3=some ⟨1, 8, [(.int .i64 0)], (.int .i64)⟩:=rfl
@[go_sem] theorem zFR:zli tab 4=some ⟨1, 1, [(.bool false)], .bool⟩:=rfl
@[go_sem] theorem zFS:zli tab 5=some ⟨1, 1, [(.int .u8 0)], (.int .u8)⟩:=rfl
@[go_sem] theorem zFT:zli tab 6=some ⟨1, 1, [(.int .u8 0)], (.int .u8)⟩:=rfl
@[go_sem] theorem zFU:zli tab 7=some ⟨4, 24, [(.int .i64 0), (.int .i64 0), (.bool false), (.int .u8 0)], (.struct [(2, 0), (3, 1), (4, 2), (6, 3)])⟩:=rfl
@[go_sem] theorem zFV:zli tab 8=some ⟨4, 24, [(.int .i64 0), (.int .i64 0), (.bool false), (.int .u8 0)], (.struct [(2, 0), (3, 1), (4, 2), (6, 3)])⟩:=rfl
@[go_sem] theorem zFW:zli tab 9=some ⟨1, 16, [(.string .empty)], .str⟩:=rfl
@[go_sem] theorem zEt:zli tab 10=some ⟨1, 16, [(.string .empty)], .str⟩:=rfl
@[go_sem] theorem zEu:zli tab 11=some ⟨1, 16, [(.string .empty)], .str⟩:=rfl
@[go_sem] theorem zEv:zli tab 12=some ⟨1, 8, [(.int .u64 0)], (.int .u64)⟩:=rfl
@[go_sem] theorem zEw:zli tab 13=some ⟨2, 24, [(.string .empty), (.int .u64 0)], (.struct [(9, 0), (12, 1)])⟩:=rfl
@[go_sem] theorem zEx:zli tab 14=some ⟨2, 24, [(.string .empty), (.int .u64 0)], (.struct [(9, 0), (12, 1)])⟩:=rfl
@[go_sem] theorem zEy:zli tab 15=some ⟨1, 8, [(.pointer none)], .flat⟩:=rfl
@[go_sem] theorem zEz:zli tab 16=some ⟨1, 8, [(.pointer none)], .flat⟩:=rfl
@[go_sem] theorem zEA:zli tab 17=some ⟨1, 8, [(.pointer none)], .flat⟩:=rfl
@[go_sem] theorem zEB:zli tab 18=some ⟨1, 8, [(.pointer none)], (.struct [(17, 0)])⟩:=rfl
@[go_sem] theorem zEC:zli tab 19=some ⟨1, 8, [(.pointer none)], (.struct [(17, 0)])⟩:=rfl
@[go_sem] theorem zED:zli tab 21=some ⟨1, 4, [(.int .i32 0)], (.int .i32)⟩:=rfl
@[go_sem] theorem zEE:zli tab 22=some ⟨1, 24, [(.slice none 0 0)], (.slice 5)⟩:=rfl
@[go_sem] theorem zEF:zli tab 23=some ⟨1, 24, [(.slice none 0 0)], (.slice 38)⟩:=rfl
@[go_sem] theorem zEG:zli tab 24=some ⟨1, 24, [(.slice none 0 0)], (.struct [(23, 0)])⟩:=rfl
@[go_sem] theorem zEH:zli tab 25=some ⟨1, 24, [(.slice none 0 0)], (.struct [(23, 0)])⟩:=rfl
@[go_sem] theorem zEJ:zli tab 26=some ⟨3, 40, [(.int .i64 0), (.int .i64 0), (.slice none 0 0)], (.struct [(3, 0), (3, 1), (25, 2)])⟩:=rfl
@[go_sem] theorem zEK:zli tab 27=some ⟨3, 40, [(.int .i64 0), (.int .i64 0), (.slice none 0 0)], (.struct [(3, 0), (3, 1), (25, 2)])⟩:=rfl
@[go_sem] theorem zEL:zli tab 28=some ⟨2, 32, [(.int .i64 0), (.slice none 0 0)], (.struct [(3, 0), (25, 1)])⟩:=rfl
@[go_sem] theorem zEM:zli tab 29=some ⟨2, 32, [(.int .i64 0), (.slice none 0 0)], (.struct [(3, 0), (25, 1)])⟩:=rfl
@[go_sem] theorem zEN:zli tab 36=some ⟨1, 24, [(.slice none 0 0)], (.slice 135)⟩:=rfl
@[go_sem] theorem zEO:zli tab 37=some ⟨1, 24, [(.slice none 0 0)], (.struct [(36, 0)])⟩:=rfl
@[go_sem] theorem zEP:zli tab 38=some ⟨1, 24, [(.slice none 0 0)], (.struct [(36, 0)])⟩:=rfl
@[go_sem] theorem zEQ:zli tab 44=some ⟨1, 24, [(.slice none 0 0)], (.slice 9)⟩:=rfl
@[go_sem] theorem zER:zli tab 50=some ⟨1, 24, [(.slice none 0 0)], (.slice 231)⟩:=rfl
@[go_sem] theorem zES:zli tab 51=some ⟨1, 24, [(.slice none 0 0)], (.struct [(50, 0)])⟩:=rfl
@[go_sem] theorem zET:zli tab 52=some ⟨1, 24, [(.slice none 0 0)], (.struct [(50, 0)])⟩:=rfl
@[go_sem] theorem zEU:zli tab 53=some ⟨3, 40, [(.int .i64 0), (.int .i64 0), (.slice none 0 0)], (.struct [(3, 0), (3, 1), (52, 2)])⟩:=rfl
@[go_sem] theorem zEV:zli tab 54=some ⟨3, 40, [(.int .i64 0), (.int .i64 0), (.slice none 0 0)], (.struct [(3, 0), (3, 1), (52, 2)])⟩:=rfl
@[go_sem] theorem zEW:zli tab 59=some ⟨1, 24, [(.slice none 0 0)], (.slice 128)⟩:=rfl
@[go_sem] theorem zEX:zli tab 61=some ⟨1, 24, [(.slice none 0 0)], (.slice 27)⟩:=rfl
@[go_sem] theorem zEY:zli tab 62=some ⟨1, 24, [(.slice none 0 0)], (.slice 133)⟩:=rfl
@[go_sem] theorem zEZ:zli tab 63=some ⟨2, 48, [(.slice none 0 0), (.slice none 0 0)], (.struct [(61, 0), (62, 1)])⟩:=rfl
@[go_sem] theorem zE0:zli tab 64=some ⟨2, 48, [(.slice none 0 0), (.slice none 0 0)], (.struct [(61, 0), (62, 1)])⟩:=rfl
@[go_sem] theorem zE1:zli tab 65=some ⟨1, 24, [(.slice none 0 0)], (.slice 3)⟩:=rfl
@[go_sem] theorem zE2:zli tab 70=some ⟨1, 24, [(.slice none 0 0)], (.slice 74)⟩:=rfl
@[go_sem] theorem zE3:zli tab 73=some ⟨2, 16, [(.int .i64 0), (.int .i64 0)], (.struct [(3, 0), (3, 1)])⟩:=rfl
@[go_sem] theorem zE4:zli tab 74=some ⟨2, 16, [(.int .i64 0), (.int .i64 0)], (.struct [(3, 0), (3, 1)])⟩:=rfl
@[go_sem] theorem zE5:zli tab 81=some ⟨1, 24, [(.slice none 0 0)], (.slice 54)⟩:=rfl
@[go_sem] theorem zE6:zli tab 82=some ⟨1, 24, [(.slice none 0 0)], (.slice 197)⟩:=rfl
@[go_sem] theorem zE7:zli tab 83=some ⟨2, 48, [(.slice none 0 0), (.slice none 0 0)], (.struct [(81, 0), (82, 1)])⟩:=rfl
@[go_sem] theorem zE8:zli tab 84=some ⟨2, 48, [(.slice none 0 0), (.slice none 0 0)], (.struct [(81, 0), (82, 1)])⟩:=rfl
@[go_sem] theorem zE9:zli tab 91=some ⟨1, 24, [(.slice none 0 0)], (.slice 158)⟩:=rfl
@[go_sem] theorem zFa:zli tab 98=some ⟨1, 8, [(.pointer none)], .flat⟩:=rfl
@[go_sem] theorem zFb:zli tab 99=some ⟨1, 8, [(.int .u64 0)], (.int .u64)⟩:=rfl
@[go_sem] theorem zDr:zli tab 100=some ⟨3, 40, [(.slice none 0 0), (.int .i64 0), (.int .u64 0)], (.struct [(22, 0), (3, 1), (99, 2)])⟩:=rfl
@[go_sem] theorem zDs:zli tab 101=some ⟨3, 40, [(.slice none 0 0), (.int .i64 0), (.int .u64 0)], (.struct [(22, 0), (3, 1), (99, 2)])⟩:=rfl
@[go_sem] theorem zDt:zli tab 127=some ⟨5, 48, [(.int .i64 0), (.int .i64 0), (.int .i64 0), (.string .empty), (.int .i64 0)], (.struct [(3, 0), (3, 1), (3, 2), (9, 3), (3, 4)])⟩:=rfl
@[go_sem] theorem zDu:zli tab 128=some ⟨5, 48, [(.int .i64 0), (.int .i64 0), (.int .i64 0), (.string .empty), (.int .i64 0)], (.struct [(3, 0), (3, 1), (3, 2), (9, 3), (3, 4)])⟩:=rfl
@[go_sem] theorem zDv:zli tab 132=some ⟨3, 40, [(.int .i64 0), (.int .i64 0), (.slice none 0 0)], (.struct [(3, 0), (29, 1)])⟩:=rfl
@[go_sem] theorem zDw:zli tab 133=some ⟨3, 40, [(.int .i64 0), (.int .i64 0), (.slice none 0 0)], (.struct [(3, 0), (29, 1)])⟩:=rfl
@[go_sem] theorem zDx:zli tab 134=some ⟨4, 40, [(.int .i64 0), (.int .i64 0), (.int .i64 0), (.string .empty)], (.struct [(3, 0), (3, 1), (3, 2), (9, 3)])⟩:=rfl
@[go_sem] theorem zDy:zli tab 135=some ⟨4, 40, [(.int .i64 0), (.int .i64 0), (.int .i64 0), (.string .empty)], (.struct [(3, 0), (3, 1), (3, 2), (9, 3)])⟩:=rfl
@[go_sem] theorem zDz:zli tab 152=some ⟨1, 8, [(.pointer none)], .flat⟩:=rfl
@[go_sem] theorem zDA:zli tab 158=some ⟨5, 48, [(.int .i64 0), (.int .i64 0), (.int .i64 0), (.string .empty), (.int .i64 0)], (.struct [(3, 0), (3, 1), (3, 2), (9, 3), (3, 4)])⟩:=rfl
@[go_sem] theorem zDB:zli tab 182=some ⟨1, 8, [(.pointer none)], .flat⟩:=rfl
@[go_sem] theorem zDC:zli tab 188=some ⟨6, 80, [(.int .i64 0), (.int .i64 0), (.bool false), (.int .i64 0), (.slice none 0 0), (.slice none 0 0)], (.struct [(3, 0), (3, 1), (4, 2), (3, 3), (44, 4), (44, 5)])⟩:=rfl
@[go_sem] theorem zDD:zli tab 189=some ⟨6, 80, [(.int .i64 0), (.int .i64 0), (.bool false), (.int .i64 0), (.slice none 0 0), (.slice none 0 0)], (.struct [(3, 0), (3, 1), (4, 2), (3, 3), (44, 4), (44, 5)])⟩:=rfl
@[go_sem] theorem zDE:zli tab 194=some ⟨2, 32, [(.int .i64 0), (.slice none 0 0)], (.struct [(3, 0), (52, 1)])⟩:=rfl
@[go_sem] theorem zDF:zli tab 195=some ⟨2, 32, [(.int .i64 0), (.slice none 0 0)], (.struct [(3, 0), (52, 1)])⟩:=rfl
@[go_sem] theorem zDG:zli tab 196=some ⟨3, 40, [(.int .i64 0), (.int .i64 0), (.slice none 0 0)], (.struct [(3, 0), (195, 1)])⟩:=rfl
@[go_sem] theorem zDH:zli tab 197=some ⟨3, 40, [(.int .i64 0), (.int .i64 0), (.slice none 0 0)], (.struct [(3, 0), (195, 1)])⟩:=rfl
@[go_sem] theorem zDJ:zli tab 205=some ⟨1, 8, [(.int .u64 0)], (.int .u64)⟩:=rfl
@[go_sem] theorem zDK:zli tab 229=some ⟨1, 24, [(.slice none 0 0)], (.slice 280)⟩:=rfl
@[go_sem] theorem zDL:zli tab 230=some ⟨1, 24, [(.slice none 0 0)], (.struct [(229, 0)])⟩:=rfl
@[go_sem] theorem zDM:zli tab 231=some ⟨1, 24, [(.slice none 0 0)], (.struct [(229, 0)])⟩:=rfl
@[go_sem] theorem zDN:zli tab 249=some ⟨1, 8, [(.int .i64 0)], (.int .i64)⟩:=rfl
@[go_sem] theorem zDO:zli tab 257=some ⟨1, 4, [(.int .u32 0)], (.int .u32)⟩:=rfl
@[go_sem] theorem zDP:zli tab 267=some ⟨1, 8, [(.pointer none)], .flat⟩:=rfl
@[go_sem] theorem zDQ:zli tab 271=some ⟨1, 8, [(.pointer none)], .flat⟩:=rfl
@[go_sem] theorem zDR:zli tab 273=some ⟨1, 8, [(.int .u64 0)], (.int .u64)⟩:=rfl
@[go_sem] theorem zDS:zli tab 277=some ⟨1, 8, [(.pointer none)], .flat⟩:=rfl
@[go_sem] theorem zDT:zli tab 280=some ⟨4, 40, [(.int .i64 0), (.int .i64 0), (.int .i64 0), (.string .empty)], (.struct [(3, 0), (3, 1), (3, 2), (9, 3)])⟩:=rfl
@[go_sem] theorem zDU:zli tab 296=some ⟨1, 8, [(.pointer none)], .flat⟩:=rfl
@[go_sem] theorem zDV:zli tab 305=some ⟨2, 2, [(.int .u8 0), (.int .u8 0)], (.struct [(5, 0), (5, 1)])⟩:=rfl
@[go_sem] theorem zDW:zli tab 306=some ⟨2, 2, [(.int .u8 0), (.int .u8 0)], (.struct [(5, 0), (5, 1)])⟩:=rfl
@[go_sem] theorem zDX:zli tab 311=some ⟨4, 40, [(.pointer none), (.pointer none), (.pointer none), (.string .empty)], (.struct [(17, 0), (17, 1), (17, 2), (9, 3)])⟩:=rfl
@[go_sem] theorem zDY:zli tab 312=some ⟨4, 40, [(.pointer none), (.pointer none), (.pointer none), (.string .empty)], (.struct [(17, 0), (17, 1), (17, 2), (9, 3)])⟩:=rfl
@[go_sem] theorem zDZ:zli tab 314=some ⟨0, 0, [], (.struct [(313, 0)])⟩:=rfl
@[go_sem] theorem zD0:zli tab 315=some ⟨0, 0, [], (.struct [(313, 0)])⟩:=rfl
@[go_sem] theorem zD1:zli tab 316=some ⟨1, 1, [(.int .u8 0)], (.int .u8)⟩:=rfl
@[go_sem] theorem zD2:zli tab 317=some ⟨1, 1, [(.int .u8 0)], (.int .u8)⟩:=rfl
@[go_sem] theorem zD3:zli tab 319=some ⟨1, 8, [(.pointer none)], .flat⟩:=rfl
@[go_sem] theorem zD4:zli tab 320=some ⟨1, 4, [(.int .i32 0)], (.int .i32)⟩:=rfl
@[go_sem] theorem zD5:zli tab 321=some ⟨1, 4, [(.int .i32 0)], (.int .i32)⟩:=rfl
theorem oi {α:Type} {a b:α} (h:some a=some b):a=b:=Option.some.inj h
theorem mixed:Tryz.prog.follows .mixedOrders=true:=by kernel_rfl
theorem fc (cfs:List (Nat×List (Nat×Nat))) {f:FuncId} {fn:Func} {code:Code} (hf:Tryz.prog.funcs[f]?=some fn) {args:List LV} {H0 H1:HL} {m nxr:Nat} {res:LV}
  (h:W ⟨Tryz.prog, tab, cfs, m, zpC tab m fn.results.toList res H1 nxr⟩ code (start args H0 m fn.ntmps) []) (hb:fn.body=some code:=by rfl) (hn:(fn.name == "runtime.NumGoroutine")=false:=by rfl) (hlen:args.length≤fn.ntmps:=by exact Nat.le_of_ble_eq_true rfl) (hc:zso cfs code=true:=by kernel_rfl):Fn Tryz.prog f args H0 m res H1 nxr :=
 zBo zCq mixed cfs hf hb hn hlen hc h
end Go.TL.YteonagfnhdlfcaaGreatDoor
