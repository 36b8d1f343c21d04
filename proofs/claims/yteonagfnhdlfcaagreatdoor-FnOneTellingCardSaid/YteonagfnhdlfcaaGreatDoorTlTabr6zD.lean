import Derived.Test.YteonagfnhdlfcaaGreatDoorTlAttr
import Derived.Test.YteonagfnhdlfcaaGreatDoorProg
import Derived.KernelRfl
set_option linter.unusedSimpArgs false
set_option linter.unusedVariables false
noncomputable section
namespace Go.TL.YteonagfnhdlfcaaGreatDoor
open Go Go.Proofs
theorem zy2 {P:Program} {t:Nat} {e:TE} {r:Tab} (h:OkT P t e) (k:zlK P r):zlK P ((t, e) :: r):=λ p hp=>by
 rcases List.mem_cons.1 hp with rfl | hp
 ·exact h
 ·exact k p hp
theorem zAB {P:Program}:zlK P []:=λ p hp=>by cases hp
def tab:Tab:=[(2, ⟨1, 8, [(.int .i64 0)], (.int .i64)⟩), (3, ⟨1, 8, [(.int .i64 0)], (.int .i64)⟩), (4, ⟨1, 1, [(.bool false)], .bool⟩), (5, ⟨1, 1, [(.int .u8 0)], (.int .u8)⟩), (6, ⟨1, 1, [(.int .u8 0)], (.int .u8)⟩), (7, ⟨4, 24, [(.int .i64 0), (.int .i64 0), (.bool false), (.int .u8 0)], (.struct [(2, 0), (3, 1), (4, 2), (6, 3)])⟩), (8, ⟨4, 24, [(.int .i64 0), (.int .i64 0), (.bool false), (.int .u8 0)], (.struct [(2, 0), (3, 1), (4, 2), (6, 3)])⟩), (9, ⟨1, 16, [(.string .empty)], .str⟩), (10, ⟨1, 16, [(.string .empty)], .str⟩), (11, ⟨1, 16, [(.string .empty)], .str⟩), (12, ⟨1, 8, [(.int .u64 0)], (.int .u64)⟩), (13, ⟨2, 24, [(.string .empty), (.int .u64 0)], (.struct [(9, 0), (12, 1)])⟩), (14, ⟨2, 24, [(.string .empty), (.int .u64 0)], (.struct [(9, 0), (12, 1)])⟩), (15, ⟨1, 8, [(.pointer none)], .flat⟩), (16, ⟨1, 8, [(.pointer none)], .flat⟩), (17, ⟨1, 8, [(.pointer none)], .flat⟩), (18, ⟨1, 8, [(.pointer none)], (.struct [(17, 0)])⟩), (19, ⟨1, 8, [(.pointer none)], (.struct [(17, 0)])⟩), (21, ⟨1, 4, [(.int .i32 0)], (.int .i32)⟩), (22, ⟨1, 24, [(.slice none 0 0)], (.slice 5)⟩), (23, ⟨1, 24, [(.slice none 0 0)], (.slice 38)⟩), (24, ⟨1, 24, [(.slice none 0 0)], (.struct [(23, 0)])⟩), (25, ⟨1, 24, [(.slice none 0 0)], (.struct [(23, 0)])⟩), (26, ⟨3, 40, [(.int .i64 0), (.int .i64 0), (.slice none 0 0)], (.struct [(3, 0), (3, 1), (25, 2)])⟩), (27, ⟨3, 40, [(.int .i64 0), (.int .i64 0), (.slice none 0 0)], (.struct [(3, 0), (3, 1), (25, 2)])⟩), (28, ⟨2, 32, [(.int .i64 0), (.slice none 0 0)], (.struct [(3, 0), (25, 1)])⟩), (29, ⟨2, 32, [(.int .i64 0), (.slice none 0 0)], (.struct [(3, 0), (25, 1)])⟩), (36, ⟨1, 24, [(.slice none 0 0)], (.slice 135)⟩), (37, ⟨1, 24, [(.slice none 0 0)], (.struct [(36, 0)])⟩), (38, ⟨1, 24, [(.slice none 0 0)], (.struct [(36, 0)])⟩), (44, ⟨1, 24, [(.slice none 0 0)], (.slice 9)⟩), (50, ⟨1, 24, [(.slice none 0 0)], (.slice 231)⟩), (51, ⟨1, 24, [(.slice none 0 0)], (.struct [(50, 0)])⟩), (52, ⟨1, 24, [(.slice none 0 0)], (.struct [(50, 0)])⟩), (53, ⟨3, 40, [(.int .i64 0), (.int .i64 0), (.slice none 0 0)], (.struct [(3, 0), (3, 1), (52, 2)])⟩), (54, ⟨3, 40, [(.int .i64 0), (.int .i64 0), (.slice none 0 0)], (.struct [(3, 0), (3, 1), (52, 2)])⟩), (59, ⟨1, 24, [(.slice none 0 0)], (.slice 128)⟩), (61, ⟨1, 24, [(.slice none 0 0)], (.slice 27)⟩), (62, ⟨1, 24, [(.slice none 0 0)], (.slice 133)⟩), (63, ⟨2, 48, [(.slice none 0 0), (.slice none 0 0)], (.struct [(61, 0), (62, 1)])⟩), (64, ⟨2, 48, [(.slice none 0 0), (.slice none 0 0)], (.struct [(61, 0), (62, 1)])⟩), (65, ⟨1, 24, [(.slice none 0 0)], (.slice 3)⟩), (70, ⟨1, 24, [(.slice none 0 0)], (.slice 74)⟩), (73, ⟨2, 16, [(.int .i64 0), (.int .i64 0)], (.struct [(3, 0), (3, 1)])⟩), (74, ⟨2, 16, [(.int .i64 0), (.int .i64 0)], (.struct [(3, 0), (3, 1)])⟩), (81, ⟨1, 24, [(.slice none 0 0)], (.slice 54)⟩), (82, ⟨1, 24, [(.slice none 0 0)], (.slice 197)⟩), (83, ⟨2, 48, [(.slice none 0 0), (.slice none 0 0)], (.struct [(81, 0), (82, 1)])⟩), (84, ⟨2, 48, [(.slice none 0 0), (.slice none 0 0)], (.struct [(81, 0), (82, 1)])⟩), (91, ⟨1, 24, [(.slice none 0 0)], (.slice 158)⟩), (98, ⟨1, 8, [(.pointer none)], .flat⟩), (99, ⟨1, 8, [(.int .u64 0)], (.int .u64)⟩), (100, ⟨3, 40, [(.slice none 0 0), (.int .i64 0), (.int .u64 0)], (.struct [(22, 0), (3, 1), (99, 2)])⟩), (101, ⟨3, 40, [(.slice none 0 0), (.int .i64 0), (.int .u64 0)], (.struct [(22, 0), (3, 1), (99, 2)])⟩), (127, ⟨5, 48, [(.int .i64 0), (.int .i64 0), (.int .i64 0), (.string .empty), (.int .i64 0)], (.struct [(3, 0), (3, 1), (3, 2), (9, 3), (3, 4)])⟩), (128, ⟨5, 48, [(.int .i64 0), (.int .i64 0), (.int .i64 0), (.string .empty), (.int .i64 0)], (.struct [(3, 0), (3, 1), (3, 2), (9, 3), (3, 4)])⟩), (132, ⟨3, 40, [(.int .i64 0), (.int .i64 0), (.slice none 0 0)], (.struct [(3, 0), (29, 1)])⟩), (133, ⟨3, 40, [(.int .i64 0), (.int .i64 0), (.slice none 0 0)], (.struct [(3, 0), (29, 1)])⟩), (134, ⟨4, 40, [(.int .i64 0), (.int .i64 0), (.int .i64 0), (.string .empty)], (.struct [(3, 0), (3, 1), (3, 2), (9, 3)])⟩), (135, ⟨4, 40, [(.int .i64 0), (.int .i64 0), (.int .i64 0), (.string .empty)], (.struct [(3, 0), (3, 1), (3, 2), (9, 3)])⟩), (152, ⟨1, 8, [(.pointer none)], .flat⟩), (158, ⟨5, 48, [(.int .i64 0), (.int .i64 0), (.int .i64 0), (.string .empty), (.int .i64 0)], (.struct [(3, 0), (3, 1), (3, 2), (9, 3), (3, 4)])⟩), (182, ⟨1, 8, [(.pointer none)], .flat⟩), (188, ⟨6, 80, [(.int .i64 0), (.int .i64 0), (.bool false), (.int .i64 0), (.slice none 0 0), (.slice none 0 0)], (.struct [(3, 0), (3, 1), (4, 2), (3, 3), (44, 4), (44, 5)])⟩), (189, ⟨6, 80, [(.int .i64 0), (.int .i64 0), (.bool false), (.int .i64 0), (.slice none 0 0), (.slice none 0 0)], (.struct [(3, 0), (3, 1), (4, 2), (3, 3), (44, 4), (44, 5)])⟩), (194, ⟨2, 32, [(.int .i64 0), (.slice none 0 0)], (.struct [(3, 0), (52, 1)])⟩), (195, ⟨2, 32, [(.int .i64 0), (.slice none 0 0)], (.struct [(3, 0), (52, 1)])⟩), (196, ⟨3, 40, [(.int .i64 0), (.int .i64 0), (.slice none 0 0)], (.struct [(3, 0), (195, 1)])⟩), (197, ⟨3, 40, [(.int .i64 0), (.int .i64 0), (.slice none 0 0)], (.struct [(3, 0), (195, 1)])⟩), (205, ⟨1, 8, [(.int .u64 0)], (.int .u64)⟩), (229, ⟨1, 24, [(.slice none 0 0)], (.slice 280)⟩), (230, ⟨1, 24, [(.slice none 0 0)], (.struct [(229, 0)])⟩), (231, ⟨1, 24, [(.slice none 0 0)], (.struct [(229, 0)])⟩), (249, ⟨1, 8, [(.int .i64 0)], (.int .i64)⟩), (257, ⟨1, 4, [(.int .u32 0)], (.int .u32)⟩), (267, ⟨1, 8, [(.pointer none)], .flat⟩), (271, ⟨1, 8, [(.pointer none)], .flat⟩), (273, ⟨1, 8, [(.int .u64 0)], (.int .u64)⟩), (277, ⟨1, 8, [(.pointer none)], .flat⟩), (280, ⟨4, 40, [(.int .i64 0), (.int .i64 0), (.int .i64 0), (.string .empty)], (.struct [(3, 0), (3, 1), (3, 2), (9, 3)])⟩), (296, ⟨1, 8, [(.pointer none)], .flat⟩), (305, ⟨2, 2, [(.int .u8 0), (.int .u8 0)], (.struct [(5, 0), (5, 1)])⟩), (306, ⟨2, 2, [(.int .u8 0), (.int .u8 0)], (.struct [(5, 0), (5, 1)])⟩), (311, ⟨4, 40, [(.pointer none), (.pointer none), (.pointer none), (.string .empty)], (.struct [(17, 0), (17, 1), (17, 2), (9, 3)])⟩), (312, ⟨4, 40, [(.pointer none), (.pointer none), (.pointer none), (.string .empty)], (.struct [(17, 0), (17, 1), (17, 2), (9, 3)])⟩), (314, ⟨0, 0, [], (.struct [(313, 0)])⟩), (315, ⟨0, 0, [], (.struct [(313, 0)])⟩), (316, ⟨1, 1, [(.int .u8 0)], (.int .u8)⟩), (317, ⟨1, 1, [(.int .u8 0)], (.int .u8)⟩), (319, ⟨1, 8, [(.pointer none)], .flat⟩), (320, ⟨1, 4, [(.int .i32 0)], (.int .i32)⟩), (321, ⟨1, 4, [(.int .i32 0)], (.int .i32)⟩)]
theorem zCf {P:Program} {t:Nat} {e:TE} {r:Tab} (k:zlK P r) (a:(P.info? t).map (λ i=>(i.size, i.bytes, i.zero.map λ v=>v.cells.toList))=some (e.size, e.bytes, some e.zero)) (c:(P.underlying t).map zmt=some e.sh):zlK P ((t, e) :: r):=zy2 ⟨a, c⟩ k
theorem zBK:zlK Tryz.prog tab:=by
 unfold tab
 iterate 92 refine zCf ?_ (by kernel_rfl) (by kernel_rfl)
 exact zAB
@[go_sem] theorem zFa:zkm tab 2=some ⟨1, 8, [(.int .i64 0)], (.int .i64)⟩:=rfl
@[go_sem] theorem zFb:zkm tab 3=some ⟨1, 8, [(.int .i64 0)], (.int .i64)⟩:=rfl
@[go_sem] theorem zFc:zkm tab 4=some ⟨1, 1, [(.bool false)], .bool⟩:=rfl
@[go_sem] theorem zFd:zkm tab 5=some ⟨1, 1, [(.int .u8 0)], (.int .u8)⟩:=rfl
@[go_sem] theorem zFe:zkm tab 6=some ⟨1, 1, [(.int .u8 0)], (.int .u8)⟩:=rfl
@[go_sem] theorem zFf:zkm tab 7=some ⟨4, 24, [(.int .i64 0), (.int .i64 0), (.bool false), (.int .u8 0)], (.struct [(2, 0), (3, 1), (4, 2), (6, 3)])⟩:=rfl
@[go_sem] theorem zFg:zkm tab 8=some ⟨4, 24, [(.int .i64 0), (.int .i64 0), (.bool false), (.int .u8 0)], (.struct [(2, 0), (3, 1), (4, 2), (6, 3)])⟩:=rfl
@[go_sem] theorem zFh:zkm tab 9=some ⟨1, 16, [(.string .empty)], .str⟩:=rfl
@[go_sem] theorem zDM:zkm tab 10=some ⟨1, 16, [(.string .empty)], .str⟩:=rfl
@[go_sem] theorem zDN:zkm tab 11=some ⟨1, 16, [(.string .empty)], .str⟩:=rfl
@[go_sem] theorem zDO:zkm tab 12=some ⟨1, 8, [(.int .u64 0)], (.int .u64)⟩:=rfl
@[go_sem] theorem zDP:zkm tab 13=some ⟨2, 24, [(.string .empty), (.int .u64 0)], (.struct [(9, 0), (12, 1)])⟩:=rfl
@[go_sem] theorem zDQ:zkm tab 14=some ⟨2, 24, [(.string .empty), (.int .u64 0)], (.struct [(9, 0), (12, 1)])⟩:=rfl
@[go_sem] theorem zDR:zkm tab 15=some ⟨1, 8, [(.pointer none)], .flat⟩:=rfl
@[go_sem] theorem zDS:zkm tab 16=some ⟨1, 8, [(.pointer none)], .flat⟩:=rfl
@[go_sem] theorem zDT:zkm tab 17=some ⟨1, 8, [(.pointer none)], .flat⟩:=rfl
@[go_sem] theorem zDU:zkm tab 18=some ⟨1, 8, [(.pointer none)], (.struct [(17, 0)])⟩:=rfl
@[go_sem] theorem zDV:zkm tab 19=some ⟨1, 8, [(.pointer none)], (.struct [(17, 0)])⟩:=rfl
@[go_sem] theorem zDW:zkm tab 21=some ⟨1, 4, [(.int .i32 0)], (.int .i32)⟩:=rfl
@[go_sem] theorem zDX:zkm tab 22=some ⟨1, 24, [(.slice none 0 0)], (.slice 5)⟩:=rfl
@[go_sem] theorem zDY:zkm tab 23=some ⟨1, 24, [(.slice none 0 0)], (.slice 38)⟩:=rfl
@[go_sem] theorem zDZ:zkm tab 24=some ⟨1, 24, [(.slice none 0 0)], (.struct [(23, 0)])⟩:=rfl
@[go_sem] theorem zD0:zkm tab 25=some ⟨1, 24, [(.slice none 0 0)], (.struct [(23, 0)])⟩:=rfl
@[go_sem] theorem zD1:zkm tab 26=some ⟨3, 40, [(.int .i64 0), (.int .i64 0), (.slice none 0 0)], (.struct [(3, 0), (3, 1), (25, 2)])⟩:=rfl
@[go_sem] theorem zD2:zkm tab 27=some ⟨3, 40, [(.int .i64 0), (.int .i64 0), (.slice none 0 0)], (.struct [(3, 0), (3, 1), (25, 2)])⟩:=rfl
@[go_sem] theorem zD3:zkm tab 28=some ⟨2, 32, [(.int .i64 0), (.slice none 0 0)], (.struct [(3, 0), (25, 1)])⟩:=rfl
@[go_sem] theorem zD4:zkm tab 29=some ⟨2, 32, [(.int .i64 0), (.slice none 0 0)], (.struct [(3, 0), (25, 1)])⟩:=rfl
@[go_sem] theorem zD5:zkm tab 36=some ⟨1, 24, [(.slice none 0 0)], (.slice 135)⟩:=rfl
@[go_sem] theorem zD6:zkm tab 37=some ⟨1, 24, [(.slice none 0 0)], (.struct [(36, 0)])⟩:=rfl
@[go_sem] theorem zD7:zkm tab 38=some ⟨1, 24, [(.slice none 0 0)], (.struct [(36, 0)])⟩:=rfl
@[go_sem] theorem zD8:zkm tab 44=some ⟨1, 24, [(.slice none 0 0)], (.slice 9)⟩:=rfl
@[go_sem] theorem zD9:zkm tab 50=some ⟨1, 24, [(.slice none 0 0)], (.slice 231)⟩:=rfl
@[go_sem] theorem zEa:zkm tab 51=some ⟨1, 24, [(.slice none 0 0)], (.struct [(50, 0)])⟩:=rfl
@[go_sem] theorem zEb:zkm tab 52=some ⟨1, 24, [(.slice none 0 0)], (.struct [(50, 0)])⟩:=rfl
@[go_sem] theorem zEc:zkm tab 53=some ⟨3, 40, [(.int .i64 0), (.int .i64 0), (.slice none 0 0)], (.struct [(3, 0), (3, 1), (52, 2)])⟩:=rfl
@[go_sem] theorem zEd:zkm tab 54=some ⟨3, 40, [(.int .i64 0), (.int .i64 0), (.slice none 0 0)], (.struct [(3, 0), (3, 1), (52, 2)])⟩:=rfl
@[go_sem] theorem zEe:zkm tab 59=some ⟨1, 24, [(.slice none 0 0)], (.slice 128)⟩:=rfl
@[go_sem] theorem zEf:zkm tab 61=some ⟨1, 24, [(.slice none 0 0)], (.slice 27)⟩:=rfl
@[go_sem] theorem zEg:zkm tab 62=some ⟨1, 24, [(.slice none 0 0)], (.slice 133)⟩:=rfl
@[go_sem] theorem zEh:zkm tab 63=some ⟨2, 48, [(.slice none 0 0), (.slice none 0 0)], (.struct [(61, 0), (62, 1)])⟩:=rfl
@[go_sem] theorem zEi:zkm tab 64=some ⟨2, 48, [(.slice none 0 0), (.slice none 0 0)], (.struct [(61, 0), (62, 1)])⟩:=rfl
@[go_sem] theorem zEj:zkm tab 65=some ⟨1, 24, [(.slice none 0 0)], (.slice 3)⟩:=rfl
@[go_sem] theorem zEk:zkm tab 70=some ⟨1, 24, [(.slice none 0 0)], (.slice 74)⟩:=rfl
@[go_sem] theorem zEl:zkm tab 73=some ⟨2, 16, [(.int .i64 0), (.int .i64 0)], (.struct [(3, 0), (3, 1)])⟩:=rfl
@[go_sem] theorem zEm:zkm tab 74=some ⟨2, 16, [(.int .i64 0), (.int .i64 0)], (.struct [(3, 0), (3, 1)])⟩:=rfl
@[go_sem] theorem zEn:zkm tab 81=some ⟨1, 24, [(.slice none 0 0)], (.slice 54)⟩:=rfl
@[go_sem] theorem zEo:zkm tab 82=some ⟨1, 24, [(.slice none 0 0)], (.slice 197)⟩:=rfl
@[go_sem] theorem zEp:zkm tab 83=some ⟨2, 48, [(.slice none 0 0), (.slice none 0 0)], (.struct [(81, 0), (82, 1)])⟩:=rfl
@[go_sem] theorem zEq:zkm tab 84=some ⟨2, 48, [(.slice none 0 0), (.slice none 0 0)], (.struct [(81, 0), (82, 1)])⟩:=rfl
@[go_sem] theorem zEr:zkm tab 91=some ⟨1, 24, [(.slice none 0 0)], (.slice 158)⟩:=rfl
@[go_sem] theorem zEs:zkm tab 98=some ⟨1, 8, [(.pointer none)], .flat⟩:=rfl
@[go_sem] theorem zEt:zkm tab 99=some ⟨1, 8, [(.int .u64 0)], (.int .u64)⟩:=rfl
@[go_sem] theorem zCH:zkm tab 100=some ⟨3, 40, [(.slice none 0 0), (.int .i64 0), (.int .u64 0)], (.struct [(22, 0), (3, 1), (99, 2)])⟩:=rfl
@[go_sem] theorem zCJ:zkm tab 101=some ⟨3, 40, [(.slice none 0 0), (.int .i64 0), (.int .u64 0)], (.struct [(22, 0), (3, 1), (99, 2)])⟩:=rfl
@[go_sem] theorem zCK:zkm tab 127=some ⟨5, 48, [(.int .i64 0), (.int .i64 0), (.int .i64 0), (.string .empty), (.int .i64 0)], (.struct [(3, 0), (3, 1), (3, 2), (9, 3), (3, 4)])⟩:=rfl
@[go_sem] theorem zCL:zkm tab 128=some ⟨5, 48, [(.int .i64 0), (.int .i64 0), (.int .i64 0), (.string .empty), (.int .i64 0)], (.struct [(3, 0), (3, 1), (3, 2), (9, 3), (3, 4)])⟩:=rfl
@[go_sem] theorem zCM:zkm tab 132=some ⟨3, 40, [(.int .i64 0), (.int .i64 0), (.slice none 0 0)], (.struct [(3, 0), (29, 1)])⟩:=rfl
@[go_sem] theorem zCN:zkm tab 133=some ⟨3, 40, [(.int .i64 0), (.int .i64 0), (.slice none 0 0)], (.struct [(3, 0), (29, 1)])⟩:=rfl
@[go_sem] theorem zCO:zkm tab 134=some ⟨4, 40, [(.int .i64 0), (.int .i64 0), (.int .i64 0), (.string .empty)], (.struct [(3, 0), (3, 1), (3, 2), (9, 3)])⟩:=rfl
@[go_sem] theorem zCP:zkm tab 135=some ⟨4, 40, [(.int .i64 0), (.int .i64 0), (.int .i64 0), (.string .empty)], (.struct [(3, 0), (3, 1), (3, 2), (9, 3)])⟩:=rfl
@[go_sem] theorem zCQ:zkm tab 152=some ⟨1, 8, [(.pointer none)], .flat⟩:=rfl
@[go_sem] theorem zCR:zkm tab 158=some ⟨5, 48, [(.int .i64 0), (.int .i64 0), (.int .i64 0), (.string .empty), (.int .i64 0)], (.struct [(3, 0), (3, 1), (3, 2), (9, 3), (3, 4)])⟩:=rfl
@[go_sem] theorem zCS:zkm tab 182=some ⟨1, 8, [(.pointer none)], .flat⟩:=rfl
@[go_sem] theorem zCT:zkm tab 188=some ⟨6, 80, [(.int .i64 0), (.int .i64 0), (.bool false), (.int .i64 0), (.slice none 0 0), (.slice none 0 0)], (.struct [(3, 0), (3, 1), (4, 2), (3, 3), (44, 4), (44, 5)])⟩:=rfl
@[go_sem] theorem zCU:zkm tab 189=some ⟨6, 80, [(.int .i64 0), (.int .i64 0), (.bool false), (.int .i64 0), (.slice none 0 0), (.slice none 0 0)], (.struct [(3, 0), (3, 1), (4, 2), (3, 3), (44, 4), (44, 5)])⟩:=rfl
@[go_sem] theorem zCV:zkm tab 194=some ⟨2, 32, [(.int .i64 0), (.slice none 0 0)], (.struct [(3, 0), (52, 1)])⟩:=rfl
@[go_sem] theorem zCW:zkm tab 195=some ⟨2, 32, [(.int .i64 0), (.slice none 0 0)], (.struct [(3, 0), (52, 1)])⟩:=rfl
@[go_sem] theorem zCX:zkm tab 196=some ⟨3, 40, [(.int .i64 0), (.int .i64 0), (.slice none 0 0)], (.struct [(3, 0), (195, 1)])⟩:=rfl
@[go_sem] theorem zCY:zkm tab 197=some ⟨3, 40, [(.int .i64 0), (.int .i64 0), (.slice none 0 0)], (.struct [(3, 0), (195, 1)])⟩:=rfl
@[go_sem] theorem zCZ:zkm tab 205=some ⟨1, 8, [(.int .u64 0)], (.int .u64)⟩:=rfl
@[go_sem] theorem zC0:zkm tab 229=some ⟨1, 24, [(.slice none 0 0)], (.slice 280)⟩:=rfl
@[go_sem] theorem zC1:zkm tab 230=some ⟨1, 24, [(.slice none 0 0)], (.struct [(229, 0)])⟩:=rfl
@[go_sem] theorem zC2:zkm tab 231=some ⟨1, 24, [(.slice none 0 0)], (.struct [(229, 0)])⟩:=rfl
@[go_sem] theorem zC3:zkm tab 249=some ⟨1, 8, [(.int .i64 0)], (.int .i64)⟩:=rfl
@[go_sem] theorem zC4:zkm tab 257=some ⟨1, 4, [(.int .u32 0)], (.int .u32)⟩:=rfl
@[go_sem] theorem zC5:zkm tab 267=some ⟨1, 8, [(.pointer none)], .flat⟩:=rfl
@[go_sem] theorem zC6:zkm tab 271=some ⟨1, 8, [(.pointer none)], .flat⟩:=rfl
@[go_sem] theorem zC7:zkm tab 273=some ⟨1, 8, [(.int .u64 0)], (.int .u64)⟩:=rfl
@[go_sem] theorem zC8:zkm tab 277=some ⟨1, 8, [(.pointer none)], .flat⟩:=rfl
@[go_sem] theorem zC9:zkm tab 280=some ⟨4, 40, [(.int .i64 0), (.int .i64 0), (.int .i64 0), (.string .empty)], (.struct [(3, 0), (3, 1), (3, 2), (9, 3)])⟩:=rfl
@[go_sem] theorem zDa:zkm tab 296=some ⟨1, 8, [(.pointer none)], .flat⟩:=rfl
@[go_sem] theorem zDb:zkm tab 305=some ⟨2, 2, [(.int .u8 0), (.int .u8 0)], (.struct [(5, 0), (5, 1)])⟩:=rfl
@[go_sem] theorem zDc:zkm tab 306=some ⟨2, 2, [(.int .u8 0), (.int .u8 0)], (.struct [(5, 0), (5, 1)])⟩:=rfl
@[go_sem] theorem zDd:zkm tab 311=some ⟨4, 40, [(.pointer none), (.pointer none), (.pointer none), (.string .empty)], (.struct [(17, 0), (17, 1), (17, 2), (9, 3)])⟩:=rfl
@[go_sem] theorem zDe:zkm tab 312=some ⟨4, 40, [(.pointer none), (.pointer none), (.pointer none), (.string .empty)], (.struct [(17, 0), (17, 1), (17, 2), (9, 3)])⟩:=rfl
@[go_sem] theorem zDf:zkm tab 314=some ⟨0, 0, [], (.struct [(313, 0)])⟩:=rfl
@[go_sem] theorem zDg:zkm tab 315=some ⟨0, 0, [], (.struct [(313, 0)])⟩:=rfl
@[go_sem] theorem zDh:zkm tab 316=some ⟨1, 1, [(.int .u8 0)], (.int .u8)⟩:=rfl
@[go_sem] theorem zDi:zkm tab 317=some ⟨1, 1, [(.int .u8 0)], (.int .u8)⟩:=rfl
@[go_sem] theorem zDj:zkm tab 319=some ⟨1, 8, [(.pointer none)], .flat⟩:=rfl
@[go_sem] theorem zDk:zkm tab 320=some ⟨1, 4, [(.int .i32 0)], (.int .i32)⟩:=rfl
@[go_sem] theorem zDl:zkm tab 321=some ⟨1, 4, [(.int .i32 0)], (.int .i32)⟩:=rfl
theorem oi {α:Type} {a b:α} (h:some a=some b):a=b:=Option.some.inj h
theorem mixed:Tryz.prog.follows .mixedOrders=true:=by kernel_rfl
theorem fc (cfs:List (Nat×List (Nat×Nat))) {f:FuncId} {fn:Func} {code:Code} (hf:Tryz.prog.funcs[f]?=some fn) {args:List LV} {H0 H1:HL} {m nxr:Nat} {res:LV}
  (h:W ⟨Tryz.prog, tab, cfs, m, zoF tab m fn.results.toList res H1 nxr⟩ code (start args H0 m fn.ntmps) []) (hb:fn.body=some code:=by rfl) (hn:(fn.name == "runtime.NumGoroutine")=false:=by rfl) (hlen:args.length≤fn.ntmps:=by exact Nat.le_of_ble_eq_true rfl) (hc:zrh cfs code=true:=by kernel_rfl):Fn Tryz.prog f args H0 m res H1 nxr :=
 zAw zBK mixed cfs hf hb hn hlen hc h
end Go.TL.YteonagfnhdlfcaaGreatDoor
