import Derived.Test.YteonagfnhdlfcaaGreatDoorTlAttr
import Derived.Test.YteonagfnhdlfcaaGreatDoorProg
import Derived.KernelRfl
set_option linter.unusedSimpArgs false
set_option linter.unusedVariables false
noncomputable section
namespace Go.TL.YteonagfnhdlfcaaGreatDoor
open Go Go.Proofs
theorem zyX {P:Program} {t:Nat} {e:TE} {r:Tab} (h:OkT P t e) (k:zk4 P r):zk4 P ((t, e) :: r):=λ p hp=>by
 rcases List.mem_cons.1 hp with rfl | hp
 ·exact h
 ·exact k p hp
theorem zAq {P:Program}:zk4 P []:=λ p hp=>by cases hp
def tab:Tab:=[(2, ⟨1, 8, [(.int .i64 0)], (.int .i64)⟩), (3, ⟨1, 8, [(.int .i64 0)], (.int .i64)⟩), (4, ⟨1, 1, [(.bool false)], .bool⟩), (5, ⟨1, 1, [(.int .u8 0)], (.int .u8)⟩), (6, ⟨1, 1, [(.int .u8 0)], (.int .u8)⟩), (7, ⟨4, 24, [(.int .i64 0), (.int .i64 0), (.bool false), (.int .u8 0)], (.struct [(2, 0), (3, 1), (4, 2), (6, 3)])⟩), (8, ⟨4, 24, [(.int .i64 0), (.int .i64 0), (.bool false), (.int .u8 0)], (.struct [(2, 0), (3, 1), (4, 2), (6, 3)])⟩), (9, ⟨1, 16, [(.string .empty)], .str⟩), (10, ⟨1, 16, [(.string .empty)], .str⟩), (11, ⟨1, 16, [(.string .empty)], .str⟩), (12, ⟨1, 8, [(.int .u64 0)], (.int .u64)⟩), (13, ⟨2, 24, [(.string .empty), (.int .u64 0)], (.struct [(9, 0), (12, 1)])⟩), (14, ⟨2, 24, [(.string .empty), (.int .u64 0)], (.struct [(9, 0), (12, 1)])⟩), (15, ⟨1, 8, [(.pointer none)], .flat⟩), (16, ⟨1, 8, [(.pointer none)], .flat⟩), (17, ⟨1, 8, [(.pointer none)], .flat⟩), (18, ⟨1, 8, [(.pointer none)], (.struct [(17, 0)])⟩), (19, ⟨1, 8, [(.pointer none)], (.struct [(17, 0)])⟩), (21, ⟨1, 4, [(.int .i32 0)], (.int .i32)⟩), (22, ⟨1, 24, [(.slice none 0 0)], (.slice 5)⟩), (23, ⟨1, 24, [(.slice none 0 0)], (.slice 38)⟩), (24, ⟨1, 24, [(.slice none 0 0)], (.struct [(23, 0)])⟩), (25, ⟨1, 24, [(.slice none 0 0)], (.struct [(23, 0)])⟩), (26, ⟨3, 40, [(.int .i64 0), (.int .i64 0), (.slice none 0 0)], (.struct [(3, 0), (3, 1), (25, 2)])⟩), (27, ⟨3, 40, [(.int .i64 0), (.int .i64 0), (.slice none 0 0)], (.struct [(3, 0), (3, 1), (25, 2)])⟩), (28, ⟨2, 32, [(.int .i64 0), (.slice none 0 0)], (.struct [(3, 0), (25, 1)])⟩), (29, ⟨2, 32, [(.int .i64 0), (.slice none 0 0)], (.struct [(3, 0), (25, 1)])⟩), (36, ⟨1, 24, [(.slice none 0 0)], (.slice 135)⟩), (37, ⟨1, 24, [(.slice none 0 0)], (.struct [(36, 0)])⟩), (38, ⟨1, 24, [(.slice none 0 0)], (.struct [(36, 0)])⟩), (44, ⟨1, 24, [(.slice none 0 0)], (.slice 9)⟩), (50, ⟨1, 24, [(.slice none 0 0)], (.slice 231)⟩), (51, ⟨1, 24, [(.slice none 0 0)], (.struct [(50, 0)])⟩), (52, ⟨1, 24, [(.slice none 0 0)], (.struct [(50, 0)])⟩), (53, ⟨3, 40, [(.int .i64 0), (.int .i64 0), (.slice none 0 0)], (.struct [(3, 0), (3, 1), (52, 2)])⟩), (54, ⟨3, 40, [(.int .i64 0), (.int .i64 0), (.slice none 0 0)], (.struct [(3, 0), (3, 1), (52, 2)])⟩), (59, ⟨1, 24, [(.slice none 0 0)], (.slice 128)⟩), (61, ⟨1, 24, [(.slice none 0 0)], (.slice 27)⟩), (62, ⟨1, 24, [(.slice none 0 0)], (.slice 133)⟩), (63, ⟨2, 48, [(.slice none 0 0), (.slice none 0 0)], (.struct [(61, 0), (62, 1)])⟩), (64, ⟨2, 48, [(.slice none 0 0), (.slice none 0 0)], (.struct [(61, 0), (62, 1)])⟩), (65, ⟨1, 24, [(.slice none 0 0)], (.slice 3)⟩), (70, ⟨1, 24, [(.slice none 0 0)], (.slice 74)⟩), (73, ⟨2, 16, [(.int .i64 0), (.int .i64 0)], (.struct [(3, 0), (3, 1)])⟩), (74, ⟨2, 16, [(.int .i64 0), (.int .i64 0)], (.struct [(3, 0), (3, 1)])⟩), (81, ⟨1, 24, [(.slice none 0 0)], (.slice 54)⟩), (82, ⟨1, 24, [(.slice none 0 0)], (.slice 197)⟩), (83, ⟨2, 48, [(.slice none 0 0), (.slice none 0 0)], (.struct [(81, 0), (82, 1)])⟩), (84, ⟨2, 48, [(.slice none 0 0), (.slice none 0 0)], (.struct [(81, 0), (82, 1)])⟩), (91, ⟨1, 24, [(.slice none 0 0)], (.slice 158)⟩), (98, ⟨1, 8, [(.pointer none)], .flat⟩), (99, ⟨1, 8, [(.int .u64 0)], (.int .u64)⟩), (100, ⟨3, 40, [(.slice none 0 0), (.int .i64 0), (.int .u64 0)], (.struct [(22, 0), (3, 1), (99, 2)])⟩), (101, ⟨3, 40, [(.slice none 0 0), (.int .i64 0), (.int .u64 0)], (.struct [(22, 0), (3, 1), (99, 2)])⟩), (127, ⟨5, 48, [(.int .i64 0), (.int .i64 0), (.int .i64 0), (.string .empty), (.int .i64 0)], (.struct [(3, 0), (3, 1), (3, 2), (9, 3), (3, 4)])⟩), (128, ⟨5, 48, [(.int .i64 0), (.int .i64 0), (.int .i64 0), (.string .empty), (.int .i64 0)], (.struct [(3, 0), (3, 1), (3, 2), (9, 3), (3, 4)])⟩), (132, ⟨3, 40, [(.int .i64 0), (.int .i64 0), (.slice none 0 0)], (.struct [(3, 0), (29, 1)])⟩), (133, ⟨3, 40, [(.int .i64 0), (.int .i64 0), (.slice none 0 0)], (.struct [(3, 0), (29, 1)])⟩), (134, ⟨4, 40, [(.int .i64 0), (.int .i64 0), (.int .i64 0), (.string .empty)], (.struct [(3, 0), (3, 1), (3, 2), (9, 3)])⟩), (135, ⟨4, 40, [(.int .i64 0), (.int .i64 0), (.int .i64 0), (.string .empty)], (.struct [(3, 0), (3, 1), (3, 2), (9, 3)])⟩), (152, ⟨1, 8, [(.pointer none)], .flat⟩), (158, ⟨5, 48, [(.int .i64 0), (.int .i64 0), (.int .i64 0), (.string .empty), (.int .i64 0)], (.struct [(3, 0), (3, 1), (3, 2), (9, 3), (3, 4)])⟩), (182, ⟨1, 8, [(.pointer none)], .flat⟩), (188, ⟨6, 80, [(.int .i64 0), (.int .i64 0), (.bool false), (.int .i64 0), (.slice none 0 0), (.slice none 0 0)], (.struct [(3, 0), (3, 1), (4, 2), (3, 3), (44, 4), (44, 5)])⟩), (189, ⟨6, 80, [(.int .i64 0), (.int .i64 0), (.bool false), (.int .i64 0), (.slice none 0 0), (.slice none 0 0)], (.struct [(3, 0), (3, 1), (4, 2), (3, 3), (44, 4), (44, 5)])⟩), (194, ⟨2, 32, [(.int .i64 0), (.slice none 0 0)], (.struct [(3, 0), (52, 1)])⟩), (195, ⟨2, 32, [(.int .i64 0), (.slice none 0 0)], (.struct [(3, 0), (52, 1)])⟩), (196, ⟨3, 40, [(.int .i64 0), (.int .i64 0), (.slice none 0 0)], (.struct [(3, 0), (195, 1)])⟩), (197, ⟨3, 40, [(.int .i64 0), (.int .i64 0), (.slice none 0 0)], (.struct [(3, 0), (195, 1)])⟩), (205, ⟨1, 8, [(.int .u64 0)], (.int .u64)⟩), (229, ⟨1, 24, [(.slice none 0 0)], (.slice 280)⟩), (230, ⟨1, 24, [(.slice none 0 0)], (.struct [(229, 0)])⟩), (231, ⟨1, 24, [(.slice none 0 0)], (.struct [(229, 0)])⟩), (249, ⟨1, 8, [(.int .i64 0)], (.int .i64)⟩), (257, ⟨1, 4, [(.int .u32 0)], (.int .u32)⟩), (267, ⟨1, 8, [(.pointer none)], .flat⟩), (271, ⟨1, 8, [(.pointer none)], .flat⟩), (273, ⟨1, 8, [(.int .u64 0)], (.int .u64)⟩), (277, ⟨1, 8, [(.pointer none)], .flat⟩), (280, ⟨4, 40, [(.int .i64 0), (.int .i64 0), (.int .i64 0), (.string .empty)], (.struct [(3, 0), (3, 1), (3, 2), (9, 3)])⟩), (296, ⟨1, 8, [(.pointer none)], .flat⟩), (305, ⟨2, 2, [(.int .u8 0), (.int .u8 0)], (.struct [(5, 0), (5, 1)])⟩), (306, ⟨2, 2, [(.int .u8 0), (.int .u8 0)], (.struct [(5, 0), (5, 1)])⟩), (311, ⟨4, 40, [(.pointer none), (.pointer none), (.pointer none), (.string .empty)], (.struct [(17, 0), (17, 1), (17, 2), (9, 3)])⟩), (312, ⟨4, 40, [(.pointer none), (.pointer none), (.pointer none), (.string .empty)], (.struct [(17, 0), (17, 1), (17, 2), (9, 3)])⟩), (314, ⟨0, 0, [], (.struct [(313, 0)])⟩), (315, ⟨0, 0, [], (.struct [(313, 0)])⟩), (316, ⟨1, 1, [(.int .u8 0)], (.int .u8)⟩), (317, ⟨1, 1, [(.int .u8 0)], (.int .u8)⟩), (319, ⟨1, 8, [(.pointer none)], .flat⟩), (320, ⟨1, 4, [(.int .i32 0)], (.int .i32)⟩), (321, ⟨1, 4, [(.int .i32 0)], (.int .i32)⟩)]
theorem zB4 {P:Program} {t:Nat} {e:TE} {r:Tab} (k:zk4 P r) (a:(P.info? t).map (λ i=>(i.size, i.bytes, i.zero.map λ v=>v.cells.toList))=some (e.size, e.bytes, some e.zero)) (c:(P.underlying t).map zlZ=some e.sh):zk4 P ((t, e) :: r):=zyX ⟨a, c⟩ k
theorem zBA:zk4 Tryz.prog tab:=by
 unfold tab
 iterate 92 refine zB4 ?_ (by kernel_rfl) (by kernel_rfl)
 exact zAq
@[go_sem] theorem zEX:zjT tab 2=some ⟨1, 8, [(.int .i64 0)], (.int .i64)⟩:=rfl
@[go_sem] theorem zEY:zjT tab 3=some ⟨1, 8, [(.int .i64 0)], (.int .i64)⟩:=rfl
@[go_sem] theorem zEZ:zjT tab 4=some ⟨1, 1, [(.bool false)], .bool⟩:=rfl
@[go_sem] theorem zE0:zjT tab 5=some ⟨1, 1, [(.int .u8 0)], (.int .u8)⟩:=rfl
@[go_sem] theorem zE1:zjT tab 6=some ⟨1, 1, [(.int .u8 0)], (.int .u8)⟩:=rfl
@[go_sem] theorem zE2:zjT tab 7=some ⟨4, 24, [(.int .i64 0), (.int .i64 0), (.bool false), (.int .u8 0)], (.struct [(2, 0), (3, 1), (4, 2), (6, 3)])⟩:=rfl
@[go_sem] theorem zE3:zjT tab 8=some ⟨4, 24, [(.int .i64 0), (.int .i64 0), (.bool false), (.int .u8 0)], (.struct [(2, 0), (3, 1), (4, 2), (6, 3)])⟩:=rfl
@[go_sem] theorem zE4:zjT tab 9=some ⟨1, 16, [(.string .empty)], .str⟩:=rfl
@[go_sem] theorem zDB:zjT tab 10=some ⟨1, 16, [(.string .empty)], .str⟩:=rfl
@[go_sem] theorem zDC:zjT tab 11=some ⟨1, 16, [(.string .empty)], .str⟩:=rfl
@[go_sem] theorem zDD:zjT tab 12=some ⟨1, 8, [(.int .u64 0)], (.int .u64)⟩:=rfl
@[go_sem] theorem zDE:zjT tab 13=some ⟨2, 24, [(.string .empty), (.int .u64 0)], (.struct [(9, 0), (12, 1)])⟩:=rfl
@[go_sem] theorem zDF:zjT tab 14=some ⟨2, 24, [(.string .empty), (.int .u64 0)], (.struct [(9, 0), (12, 1)])⟩:=rfl
@[go_sem] theorem zDG:zjT tab 15=some ⟨1, 8, [(.pointer none)], .flat⟩:=rfl
@[go_sem] theorem zDH:zjT tab 16=some ⟨1, 8, [(.pointer none)], .flat⟩:=rfl
@[go_sem] theorem zDJ:zjT tab 17=some ⟨1, 8, [(.pointer none)], .flat⟩:=rfl
@[go_sem] theorem zDK:zjT tab 18=some ⟨1, 8, [(.pointer none)], (.struct [(17, 0)])⟩:=rfl
@[go_sem] theorem zDL:zjT tab 19=some ⟨1, 8, [(.pointer none)], (.struct [(17, 0)])⟩:=rfl
@[go_sem] theorem zDM:zjT tab 21=some ⟨1, 4, [(.int .i32 0)], (.int .i32)⟩:=rfl
@[go_sem] theorem zDN:zjT tab 22=some ⟨1, 24, [(.slice none 0 0)], (.slice 5)⟩:=rfl
@[go_sem] theorem zDO:zjT tab 23=some ⟨1, 24, [(.slice none 0 0)], (.slice 38)⟩:=rfl
@[go_sem] theorem zDP:zjT tab 24=some ⟨1, 24, [(.slice none 0 0)], (.struct [(23, 0)])⟩:=rfl
@[go_sem] theorem zDQ:zjT tab 25=some ⟨1, 24, [(.slice none 0 0)], (.struct [(23, 0)])⟩:=rfl
@[go_sem] theorem zDR:zjT tab 26=some ⟨3, 40, [(.int .i64 0), (.int .i64 0), (.slice none 0 0)], (.struct [(3, 0), (3, 1), (25, 2)])⟩:=rfl
@[go_sem] theorem zDS:zjT tab 27=some ⟨3, 40, [(.int .i64 0), (.int .i64 0), (.slice none 0 0)], (.struct [(3, 0), (3, 1), (25, 2)])⟩:=rfl
@[go_sem] theorem zDT:zjT tab 28=some ⟨2, 32, [(.int .i64 0), (.slice none 0 0)], (.struct [(3, 0), (25, 1)])⟩:=rfl
@[go_sem] theorem zDU:zjT tab 29=some ⟨2, 32, [(.int .i64 0), (.slice none 0 0)], (.struct [(3, 0), (25, 1)])⟩:=rfl
@[go_sem] theorem zDV:zjT tab 36=some ⟨1, 24, [(.slice none 0 0)], (.slice 135)⟩:=rfl
@[go_sem] theorem zDW:zjT tab 37=some ⟨1, 24, [(.slice none 0 0)], (.struct [(36, 0)])⟩:=rfl
@[go_sem] theorem zDX:zjT tab 38=some ⟨1, 24, [(.slice none 0 0)], (.struct [(36, 0)])⟩:=rfl
@[go_sem] theorem zDY:zjT tab 44=some ⟨1, 24, [(.slice none 0 0)], (.slice 9)⟩:=rfl
@[go_sem] theorem zDZ:zjT tab 50=some ⟨1, 24, [(.slice none 0 0)], (.slice 231)⟩:=rfl
@[go_sem] theorem zD0:zjT tab 51=some ⟨1, 24, [(.slice none 0 0)], (.struct [(50, 0)])⟩:=rfl
@[go_sem] theorem zD1:zjT tab 52=some ⟨1, 24, [(.slice none 0 0)], (.struct [(50, 0)])⟩:=rfl
@[go_sem] theorem zD2:zjT tab 53=some ⟨3, 40, [(.int .i64 0), (.int .i64 0), (.slice none 0 0)], (.struct [(3, 0), (3, 1), (52, 2)])⟩:=rfl
@[go_sem] theorem zD3:zjT tab 54=some ⟨3, 40, [(.int .i64 0), (.int .i64 0), (.slice none 0 0)], (.struct [(3, 0), (3, 1), (52, 2)])⟩:=rfl
@[go_sem] theorem zD4:zjT tab 59=some ⟨1, 24, [(.slice none 0 0)], (.slice 128)⟩:=rfl
@[go_sem] theorem zD5:zjT tab 61=some ⟨1, 24, [(.slice none 0 0)], (.slice 27)⟩:=rfl
@[go_sem] theorem zD6:zjT tab 62=some ⟨1, 24, [(.slice none 0 0)], (.slice 133)⟩:=rfl
@[go_sem] theorem zD7:zjT tab 63=some ⟨2, 48, [(.slice none 0 0), (.slice none 0 0)], (.struct [(61, 0), (62, 1)])⟩:=rfl
@[go_sem] theorem zD8:zjT tab 64=some ⟨2, 48, [(.slice none 0 0), (.slice none 0 0)], (.struct [(61, 0), (62, 1)])⟩:=rfl
@[go_sem] theorem zD9:zjT tab 65=some ⟨1, 24, [(.slice none 0 0)], (.slice 3)⟩:=rfl
@[go_sem] theorem zEa:zjT tab 70=some ⟨1, 24, [(.slice none 0 0)], (.slice 74)⟩:=rfl
@[go_sem] theorem zEb:zjT tab 73=some ⟨2, 16, [(.int .i64 0), (.int .i64 0)], (.struct [(3, 0), (3, 1)])⟩:=rfl
@[go_sem] theorem zEc:zjT tab 74=some ⟨2, 16, [(.int .i64 0), (.int .i64 0)], (.struct [(3, 0), (3, 1)])⟩:=rfl
@[go_sem] theorem zEd:zjT tab 81=some ⟨1, 24, [(.slice none 0 0)], (.slice 54)⟩:=rfl
@[go_sem] theorem zEe:zjT tab 82=some ⟨1, 24, [(.slice none 0 0)], (.slice 197)⟩:=rfl
@[go_sem] theorem zEf:zjT tab 83=some ⟨2, 48, [(.slice none 0 0), (.slice none 0 0)], (.struct [(81, 0), (82, 1)])⟩:=rfl
@[go_sem] theorem zEg:zjT tab 84=some ⟨2, 48, [(.slice none 0 0), (.slice none 0 0)], (.struct [(81, 0), (82, 1)])⟩:=rfl
@[go_sem] theorem zEh:zjT tab 91=some ⟨1, 24, [(.slice none 0 0)], (.slice 158)⟩:=rfl
@[go_sem] theorem zEi:zjT tab 98=some ⟨1, 8, [(.pointer none)], .flat⟩:=rfl
@[go_sem] theorem zEj:zjT tab 99=some ⟨1, 8, [(.int .u64 0)], (.int .u64)⟩:=rfl
@[go_sem] theorem zCy:zjT tab 100=some ⟨3, 40, [(.slice none 0 0), (.int .i64 0), (.int .u64 0)], (.struct [(22, 0), (3, 1), (99, 2)])⟩:=rfl
@[go_sem] theorem zCz:zjT tab 101=some ⟨3, 40, [(.slice none 0 0), (.int .i64 0), (.int .u64 0)], (.struct [(22, 0), (3, 1), (99, 2)])⟩:=rfl
@[go_sem] theorem zCA:zjT tab 127=some ⟨5, 48, [(.int .i64 0), (.int .i64 0), (.int .i64 0), (.string .empty), (.int .i64 0)], (.struct [(3, 0), (3, 1), (3, 2), (9, 3), (3, 4)])⟩:=rfl
@[go_sem] theorem zCB:zjT tab 128=some ⟨5, 48, [(.int .i64 0), (.int .i64 0), (.int .i64 0), (.string .empty), (.int .i64 0)], (.struct [(3, 0), (3, 1), (3, 2), (9, 3), (3, 4)])⟩:=rfl
@[go_sem] theorem zCC:zjT tab 132=some ⟨3, 40, [(.int .i64 0), (.int .i64 0), (.slice none 0 0)], (.struct [(3, 0), (29, 1)])⟩:=rfl
@[go_sem] theorem zCD:zjT tab 133=some ⟨3, 40, [(.int .i64 0), (.int .i64 0), (.slice none 0 0)], (.struct [(3, 0), (29, 1)])⟩:=rfl
@[go_sem] theorem zCE:zjT tab 134=some ⟨4, 40, [(.int .i64 0), (.int .i64 0), (.int .i64 0), (.string .empty)], (.struct [(3, 0), (3, 1), (3, 2), (9, 3)])⟩:=rfl
@[go_sem] theorem zCF:zjT tab 135=some ⟨4, 40, [(.int .i64 0), (.int .i64 0), (.int .i64 0), (.string .empty)], (.struct [(3, 0), (3, 1), (3, 2), (9, 3)])⟩:=rfl
@[go_sem] theorem zCG:zjT tab 152=some ⟨1, 8, [(.pointer none)], .flat⟩:=rfl
@[go_sem] theorem zCH:zjT tab 158=some ⟨5, 48, [(.int .i64 0), (.int .i64 0), (.int .i64 0), (.string .empty), (.int .i64 0)], (.struct [(3, 0), (3, 1), (3, 2), (9, 3), (3, 4)])⟩:=rfl
@[go_sem] theorem zCJ:zjT tab 182=some ⟨1, 8, [(.pointer none)], .flat⟩:=rfl
@[go_sem] theorem zCK:zjT tab 188=some ⟨6, 80, [(.int .i64 0), (.int .i64 0), (.bool false), (.int .i64 0), (.slice none 0 0), (.slice none 0 0)], (.struct [(3, 0), (3, 1), (4, 2), (3, 3), (44, 4), (44, 5)])⟩:=rfl
@[go_sem] theorem zCL:zjT tab 189=some ⟨6, 80, [(.int .i64 0), (.int .i64 0), (.bool false), (.int .i64 0), (.slice none 0 0), (.slice none 0 0)], (.struct [(3, 0), (3, 1), (4, 2), (3, 3), (44, 4), (44, 5)])⟩:=rfl
@[go_sem] theorem zCM:zjT tab 194=some ⟨2, 32, [(.int .i64 0), (.slice none 0 0)], (.struct [(3, 0), (52, 1)])⟩:=rfl
@[go_sem] theorem zCN:zjT tab 195=some ⟨2, 32, [(.int .i64 0), (.slice none 0 0)], (.struct [(3, 0), (52, 1)])⟩:=rfl
@[go_sem] theorem zCO:zjT tab 196=some ⟨3, 40, [(.int .i64 0), (.int .i64 0), (.slice none 0 0)], (.struct [(3, 0), (195, 1)])⟩:=rfl
@[go_sem] theorem zCP:zjT tab 197=some ⟨3, 40, [(.int .i64 0), (.int .i64 0), (.slice none 0 0)], (.struct [(3, 0), (195, 1)])⟩:=rfl
@[go_sem] theorem zCQ:zjT tab 205=some ⟨1, 8, [(.int .u64 0)], (.int .u64)⟩:=rfl
@[go_sem] theorem zCR:zjT tab 229=some ⟨1, 24, [(.slice none 0 0)], (.slice 280)⟩:=rfl
@[go_sem] theorem zCS:zjT tab 230=some ⟨1, 24, [(.slice none 0 0)], (.struct [(229, 0)])⟩:=rfl
@[go_sem] theorem zCT:zjT tab 231=some ⟨1, 24, [(.slice none 0 0)], (.struct [(229, 0)])⟩:=rfl
@[go_sem] theorem zCU:zjT tab 249=some ⟨1, 8, [(.int .i64 0)], (.int .i64)⟩:=rfl
@[go_sem] theorem zCV:zjT tab 257=some ⟨1, 4, [(.int .u32 0)], (.int .u32)⟩:=rfl
@[go_sem] theorem zCW:zjT tab 267=some ⟨1, 8, [(.pointer none)], .flat⟩:=rfl
@[go_sem] theorem zCX:zjT tab 271=some ⟨1, 8, [(.pointer none)], .flat⟩:=rfl
@[go_sem] theorem zCY:zjT tab 273=some ⟨1, 8, [(.int .u64 0)], (.int .u64)⟩:=rfl
@[go_sem] theorem zCZ:zjT tab 277=some ⟨1, 8, [(.pointer none)], .flat⟩:=rfl
@[go_sem] theorem zC0:zjT tab 280=some ⟨4, 40, [(.int .i64 0), (.int .i64 0), (.int .i64 0), (.string .empty)], (.struct [(3, 0), (3, 1), (3, 2), (9, 3)])⟩:=rfl
@[go_sem] theorem zC1:zjT tab 296=some ⟨1, 8, [(.pointer none)], .flat⟩:=rfl
@[go_sem] theorem zC2:zjT tab 305=some ⟨2, 2, [(.int .u8 0), (.int .u8 0)], (.struct [(5, 0), (5, 1)])⟩:=rfl
@[go_sem] theorem zC3:zjT tab 306=some ⟨2, 2, [(.int .u8 0), (.int .u8 0)], (.struct [(5, 0), (5, 1)])⟩:=rfl
@[go_sem] theorem zC4:zjT tab 311=some ⟨4, 40, [(.pointer none), (.pointer none), (.pointer none), (.string .empty)], (.struct [(17, 0), (17, 1), (17, 2), (9, 3)])⟩:=rfl
@[go_sem] theorem zC5:zjT tab 312=some ⟨4, 40, [(.pointer none), (.pointer none), (.pointer none), (.string .empty)], (.struct [(17, 0), (17, 1), (17, 2), (9, 3)])⟩:=rfl
@[go_sem] theorem zC6:zjT tab 314=some ⟨0, 0, [], (.struct [(313, 0)])⟩:=rfl
@[go_sem] theorem zC7:zjT tab 315=some ⟨0, 0, [], (.struct [(313, 0)])⟩:=rfl
@[go_sem] theorem zC8:zjT tab 316=some ⟨1, 1, [(.int .u8 0)], (.int .u8)⟩:=rfl
@[go_sem] theorem zC9:zjT tab 317=some ⟨1, 1, [(.int .u8 0)], (.int .u8)⟩:=rfl
@[go_sem] theorem zDa:zjT tab 319=some ⟨1, 8, [(.pointer none)], .flat⟩:=rfl
@[go_sem] theorem zDb:zjT tab 320=some ⟨1, 4, [(.int .i32 0)], (.int .i32)⟩:=rfl
@[go_sem] theorem zDc:zjT tab 321=some ⟨1, 4, [(.int .i32 0)], (.int .i32)⟩:=rfl
theorem oi {α:Type} {a b:α} (h:some a=some b):a=b:=Option.some.inj h
theorem mixed:Tryz.prog.follows .mixedOrders=true:=by kernel_rfl
theorem fc (cfs:List (Nat×List (Nat×Nat))) {f:FuncId} {fn:Func} {code:Code} (hf:Tryz.prog.funcs[f]?=some fn) {args:List LV} {H0 H1:HL} {m nxr:Nat} {res:LV}
  (h:W ⟨Tryz.prog, tab, cfs, m, zn8 tab m fn.results.toList res H1 nxr⟩ code (start args H0 m fn.ntmps) []) (hb:fn.body=some code:=by rfl) (hn:(fn.name == "runtime.NumGoroutine")=false:=by rfl) (hlen:args.length≤fn.ntmps:=by exact Nat.le_of_ble_eq_true rfl) (hc:zqN cfs code=true:=by kernel_rfl):Fn Tryz.prog f args H0 m res H1 nxr :=
 zAl zBA mixed cfs hf hb hn hlen hc h
end Go.TL.YteonagfnhdlfcaaGreatDoor
