import Derived.Test.YteonagfnhdlfcaaGreatDoorTlAttr
import Derived.Test.YteonagfnhdlfcaaGreatDoorProg
import Derived.KernelRfl
set_option linter.unusedSimpArgs false
set_option linter.unusedVariables false
namespace Go.TL.YteonagfnhdlfcaaGreatDoor
open Go Go.Proofs
theorem tab_cons {P : Program} {t : Nat} {e : TE} {r : Tab} (h : OkT P t e) (k : TabOk P r) : TabOk P ((t,e) :: r) := fun p hp => by
 rcases List.mem_cons.1 hp with rfl | hp
 ·exact h
 ·exact k p hp
theorem tab_nil {P : Program} : TabOk P [] := fun p hp => by cases hp
def tab : Tab := [(2,⟨1,8,[(.int .i64 0)],(.int .i64)⟩),(3,⟨1,8,[(.int .i64 0)],(.int .i64)⟩),(4,⟨1,1,[(.bool false)],.bool⟩),(5,⟨1,1,[(.int .u8 0)],(.int .u8)⟩),(6,⟨1,1,[(.int .u8 0)],(.int .u8)⟩),(7,⟨4,24,[(.int .i64 0),(.int .i64 0),(.bool false),(.int .u8 0)],(.struct [(2,0),(3,1),(4,2),(6,3)])⟩),(8,⟨4,24,[(.int .i64 0),(.int .i64 0),(.bool false),(.int .u8 0)],(.struct [(2,0),(3,1),(4,2),(6,3)])⟩),(9,⟨1,16,[(.string .empty)],.str⟩),(10,⟨1,16,[(.string .empty)],.str⟩),(11,⟨1,16,[(.string .empty)],.str⟩),(12,⟨1,8,[(.int .u64 0)],(.int .u64)⟩),(13,⟨2,24,[(.string .empty),(.int .u64 0)],(.struct [(9,0),(12,1)])⟩),(14,⟨2,24,[(.string .empty),(.int .u64 0)],(.struct [(9,0),(12,1)])⟩),(15,⟨1,8,[(.pointer none)],.flat⟩),(16,⟨1,8,[(.pointer none)],.flat⟩),(17,⟨1,8,[(.pointer none)],.flat⟩),(18,⟨1,8,[(.pointer none)],(.struct [(17,0)])⟩),(19,⟨1,8,[(.pointer none)],(.struct [(17,0)])⟩),(21,⟨1,4,[(.int .i32 0)],(.int .i32)⟩),(22,⟨1,24,[(.slice none 0 0)],(.slice 5)⟩),(23,⟨1,24,[(.slice none 0 0)],(.slice 38)⟩),(24,⟨1,24,[(.slice none 0 0)],(.struct [(23,0)])⟩),(25,⟨1,24,[(.slice none 0 0)],(.struct [(23,0)])⟩),(26,⟨3,40,[(.int .i64 0),(.int .i64 0),(.slice none 0 0)],(.struct [(3,0),(3,1),(25,2)])⟩),(27,⟨3,40,[(.int .i64 0),(.int .i64 0),(.slice none 0 0)],(.struct [(3,0),(3,1),(25,2)])⟩),(28,⟨2,32,[(.int .i64 0),(.slice none 0 0)],(.struct [(3,0),(25,1)])⟩),(29,⟨2,32,[(.int .i64 0),(.slice none 0 0)],(.struct [(3,0),(25,1)])⟩),(36,⟨1,24,[(.slice none 0 0)],(.slice 135)⟩),(37,⟨1,24,[(.slice none 0 0)],(.struct [(36,0)])⟩),(38,⟨1,24,[(.slice none 0 0)],(.struct [(36,0)])⟩),(44,⟨1,24,[(.slice none 0 0)],(.slice 9)⟩),(50,⟨1,24,[(.slice none 0 0)],(.slice 231)⟩),(51,⟨1,24,[(.slice none 0 0)],(.struct [(50,0)])⟩),(52,⟨1,24,[(.slice none 0 0)],(.struct [(50,0)])⟩),(53,⟨3,40,[(.int .i64 0),(.int .i64 0),(.slice none 0 0)],(.struct [(3,0),(3,1),(52,2)])⟩),(54,⟨3,40,[(.int .i64 0),(.int .i64 0),(.slice none 0 0)],(.struct [(3,0),(3,1),(52,2)])⟩),(59,⟨1,24,[(.slice none 0 0)],(.slice 128)⟩),(61,⟨1,24,[(.slice none 0 0)],(.slice 27)⟩),(62,⟨1,24,[(.slice none 0 0)],(.slice 133)⟩),(63,⟨2,48,[(.slice none 0 0),(.slice none 0 0)],(.struct [(61,0),(62,1)])⟩),(64,⟨2,48,[(.slice none 0 0),(.slice none 0 0)],(.struct [(61,0),(62,1)])⟩),(65,⟨1,24,[(.slice none 0 0)],(.slice 3)⟩),(70,⟨1,24,[(.slice none 0 0)],(.slice 74)⟩),(73,⟨2,16,[(.int .i64 0),(.int .i64 0)],(.struct [(3,0),(3,1)])⟩),(74,⟨2,16,[(.int .i64 0),(.int .i64 0)],(.struct [(3,0),(3,1)])⟩),(81,⟨1,24,[(.slice none 0 0)],(.slice 54)⟩),(82,⟨1,24,[(.slice none 0 0)],(.slice 197)⟩),(83,⟨2,48,[(.slice none 0 0),(.slice none 0 0)],(.struct [(81,0),(82,1)])⟩),(84,⟨2,48,[(.slice none 0 0),(.slice none 0 0)],(.struct [(81,0),(82,1)])⟩),(91,⟨1,24,[(.slice none 0 0)],(.slice 158)⟩),(98,⟨1,8,[(.pointer none)],.flat⟩),(99,⟨1,8,[(.int .u64 0)],(.int .u64)⟩),(100,⟨3,40,[(.slice none 0 0),(.int .i64 0),(.int .u64 0)],(.struct [(22,0),(3,1),(99,2)])⟩),(101,⟨3,40,[(.slice none 0 0),(.int .i64 0),(.int .u64 0)],(.struct [(22,0),(3,1),(99,2)])⟩),(127,⟨5,48,[(.int .i64 0),(.int .i64 0),(.int .i64 0),(.string .empty),(.int .i64 0)],(.struct [(3,0),(3,1),(3,2),(9,3),(3,4)])⟩),(128,⟨5,48,[(.int .i64 0),(.int .i64 0),(.int .i64 0),(.string .empty),(.int .i64 0)],(.struct [(3,0),(3,1),(3,2),(9,3),(3,4)])⟩),(132,⟨3,40,[(.int .i64 0),(.int .i64 0),(.slice none 0 0)],(.struct [(3,0),(29,1)])⟩),(133,⟨3,40,[(.int .i64 0),(.int .i64 0),(.slice none 0 0)],(.struct [(3,0),(29,1)])⟩),(134,⟨4,40,[(.int .i64 0),(.int .i64 0),(.int .i64 0),(.string .empty)],(.struct [(3,0),(3,1),(3,2),(9,3)])⟩),(135,⟨4,40,[(.int .i64 0),(.int .i64 0),(.int .i64 0),(.string .empty)],(.struct [(3,0),(3,1),(3,2),(9,3)])⟩),(152,⟨1,8,[(.pointer none)],.flat⟩),(158,⟨5,48,[(.int .i64 0),(.int .i64 0),(.int .i64 0),(.string .empty),(.int .i64 0)],(.struct [(3,0),(3,1),(3,2),(9,3),(3,4)])⟩),(182,⟨1,8,[(.pointer none)],.flat⟩),(188,⟨6,80,[(.int .i64 0),(.int .i64 0),(.bool false),(.int .i64 0),(.slice none 0 0),(.slice none 0 0)],(.struct [(3,0),(3,1),(4,2),(3,3),(44,4),(44,5)])⟩),(189,⟨6,80,[(.int .i64 0),(.int .i64 0),(.bool false),(.int .i64 0),(.slice none 0 0),(.slice none 0 0)],(.struct [(3,0),(3,1),(4,2),(3,3),(44,4),(44,5)])⟩),(194,⟨2,32,[(.int .i64 0),(.slice none 0 0)],(.struct [(3,0),(52,1)])⟩),(195,⟨2,32,[(.int .i64 0),(.slice none 0 0)],(.struct [(3,0),(52,1)])⟩),(196,⟨3,40,[(.int .i64 0),(.int .i64 0),(.slice none 0 0)],(.struct [(3,0),(195,1)])⟩),(197,⟨3,40,[(.int .i64 0),(.int .i64 0),(.slice none 0 0)],(.struct [(3,0),(195,1)])⟩),(205,⟨1,8,[(.int .u64 0)],(.int .u64)⟩),(229,⟨1,24,[(.slice none 0 0)],(.slice 280)⟩),(230,⟨1,24,[(.slice none 0 0)],(.struct [(229,0)])⟩),(231,⟨1,24,[(.slice none 0 0)],(.struct [(229,0)])⟩),(249,⟨1,8,[(.int .i64 0)],(.int .i64)⟩),(257,⟨1,4,[(.int .u32 0)],(.int .u32)⟩),(267,⟨1,8,[(.pointer none)],.flat⟩),(271,⟨1,8,[(.pointer none)],.flat⟩),(273,⟨1,8,[(.int .u64 0)],(.int .u64)⟩),(277,⟨1,8,[(.pointer none)],.flat⟩),(280,⟨4,40,[(.int .i64 0),(.int .i64 0),(.int .i64 0),(.string .empty)],(.struct [(3,0),(3,1),(3,2),(9,3)])⟩),(296,⟨1,8,[(.pointer none)],.flat⟩),(305,⟨2,2,[(.int .u8 0),(.int .u8 0)],(.struct [(5,0),(5,1)])⟩),(306,⟨2,2,[(.int .u8 0),(.int .u8 0)],(.struct [(5,0),(5,1)])⟩),(311,⟨4,40,[(.pointer none),(.pointer none),(.pointer none),(.string .empty)],(.struct [(17,0),(17,1),(17,2),(9,3)])⟩),(312,⟨4,40,[(.pointer none),(.pointer none),(.pointer none),(.string .empty)],(.struct [(17,0),(17,1),(17,2),(9,3)])⟩),(314,⟨0,0,[],(.struct [(313,0)])⟩),(315,⟨0,0,[],(.struct [(313,0)])⟩),(316,⟨1,1,[(.int .u8 0)],(.int .u8)⟩),(317,⟨1,1,[(.int .u8 0)],(.int .u8)⟩),(319,⟨1,8,[(.pointer none)],.flat⟩),(320,⟨1,4,[(.int .i32 0)],(.int .i32)⟩),(321,⟨1,4,[(.int .i32 0)],(.int .i32)⟩)]
theorem tab_m {P : Program} {t : Nat} {e : TE} {r : Tab} (k : TabOk P r) (a : (P.info? t).map (fun i => (i.size,i.bytes,i.zero.map fun v => v.cells.toList)) = some (e.size,e.bytes,some e.zero)) (c : (P.underlying t).map shapeOf = some e.sh) : TabOk P ((t,e) :: r) := tab_cons ⟨a,c⟩ k
theorem tab_ok : TabOk Tryz.prog tab := by
 unfold tab
 iterate 92 refine tab_m ?_ (by kernel_rfl) (by kernel_rfl)
 exact tab_nil
@[go_sem] theorem look2 : look tab 2 = some ⟨1,8,[(.int .i64 0)],(.int .i64)⟩ := rfl
@[go_sem] theorem look3 : look tab 3 = some ⟨1,8,[(.int .i64 0)],(.int .i64)⟩ := rfl
@[go_sem] theorem look4 : look tab 4 = some ⟨1,1,[(.bool false)],.bool⟩ := rfl
@[go_sem] theorem look5 : look tab 5 = some ⟨1,1,[(.int .u8 0)],(.int .u8)⟩ := rfl
@[go_sem] theorem look6 : look tab 6 = some ⟨1,1,[(.int .u8 0)],(.int .u8)⟩ := rfl
@[go_sem] theorem look7 : look tab 7 = some ⟨4,24,[(.int .i64 0),(.int .i64 0),(.bool false),(.int .u8 0)],(.struct [(2,0),(3,1),(4,2),(6,3)])⟩ := rfl
@[go_sem] theorem look8 : look tab 8 = some ⟨4,24,[(.int .i64 0),(.int .i64 0),(.bool false),(.int .u8 0)],(.struct [(2,0),(3,1),(4,2),(6,3)])⟩ := rfl
@[go_sem] theorem look9 : look tab 9 = some ⟨1,16,[(.string .empty)],.str⟩ := rfl
@[go_sem] theorem look10 : look tab 10 = some ⟨1,16,[(.string .empty)],.str⟩ := rfl
@[go_sem] theorem look11 : look tab 11 = some ⟨1,16,[(.string .empty)],.str⟩ := rfl
@[go_sem] theorem look12 : look tab 12 = some ⟨1,8,[(.int .u64 0)],(.int .u64)⟩ := rfl
@[go_sem] theorem look13 : look tab 13 = some ⟨2,24,[(.string .empty),(.int .u64 0)],(.struct [(9,0),(12,1)])⟩ := rfl
@[go_sem] theorem look14 : look tab 14 = some ⟨2,24,[(.string .empty),(.int .u64 0)],(.struct [(9,0),(12,1)])⟩ := rfl
@[go_sem] theorem look15 : look tab 15 = some ⟨1,8,[(.pointer none)],.flat⟩ := rfl
@[go_sem] theorem look16 : look tab 16 = some ⟨1,8,[(.pointer none)],.flat⟩ := rfl
@[go_sem] theorem look17 : look tab 17 = some ⟨1,8,[(.pointer none)],.flat⟩ := rfl
@[go_sem] theorem look18 : look tab 18 = some ⟨1,8,[(.pointer none)],(.struct [(17,0)])⟩ := rfl
@[go_sem] theorem look19 : look tab 19 = some ⟨1,8,[(.pointer none)],(.struct [(17,0)])⟩ := rfl
@[go_sem] theorem look21 : look tab 21 = some ⟨1,4,[(.int .i32 0)],(.int .i32)⟩ := rfl
@[go_sem] theorem look22 : look tab 22 = some ⟨1,24,[(.slice none 0 0)],(.slice 5)⟩ := rfl
@[go_sem] theorem look23 : look tab 23 = some ⟨1,24,[(.slice none 0 0)],(.slice 38)⟩ := rfl
@[go_sem] theorem look24 : look tab 24 = some ⟨1,24,[(.slice none 0 0)],(.struct [(23,0)])⟩ := rfl
@[go_sem] theorem look25 : look tab 25 = some ⟨1,24,[(.slice none 0 0)],(.struct [(23,0)])⟩ := rfl
@[go_sem] theorem look26 : look tab 26 = some ⟨3,40,[(.int .i64 0),(.int .i64 0),(.slice none 0 0)],(.struct [(3,0),(3,1),(25,2)])⟩ := rfl
@[go_sem] theorem look27 : look tab 27 = some ⟨3,40,[(.int .i64 0),(.int .i64 0),(.slice none 0 0)],(.struct [(3,0),(3,1),(25,2)])⟩ := rfl
@[go_sem] theorem look28 : look tab 28 = some ⟨2,32,[(.int .i64 0),(.slice none 0 0)],(.struct [(3,0),(25,1)])⟩ := rfl
@[go_sem] theorem look29 : look tab 29 = some ⟨2,32,[(.int .i64 0),(.slice none 0 0)],(.struct [(3,0),(25,1)])⟩ := rfl
@[go_sem] theorem look36 : look tab 36 = some ⟨1,24,[(.slice none 0 0)],(.slice 135)⟩ := rfl
@[go_sem] theorem look37 : look tab 37 = some ⟨1,24,[(.slice none 0 0)],(.struct [(36,0)])⟩ := rfl
@[go_sem] theorem look38 : look tab 38 = some ⟨1,24,[(.slice none 0 0)],(.struct [(36,0)])⟩ := rfl
@[go_sem] theorem look44 : look tab 44 = some ⟨1,24,[(.slice none 0 0)],(.slice 9)⟩ := rfl
@[go_sem] theorem look50 : look tab 50 = some ⟨1,24,[(.slice none 0 0)],(.slice 231)⟩ := rfl
@[go_sem] theorem look51 : look tab 51 = some ⟨1,24,[(.slice none 0 0)],(.struct [(50,0)])⟩ := rfl
@[go_sem] theorem look52 : look tab 52 = some ⟨1,24,[(.slice none 0 0)],(.struct [(50,0)])⟩ := rfl
@[go_sem] theorem look53 : look tab 53 = some ⟨3,40,[(.int .i64 0),(.int .i64 0),(.slice none 0 0)],(.struct [(3,0),(3,1),(52,2)])⟩ := rfl
@[go_sem] theorem look54 : look tab 54 = some ⟨3,40,[(.int .i64 0),(.int .i64 0),(.slice none 0 0)],(.struct [(3,0),(3,1),(52,2)])⟩ := rfl
@[go_sem] theorem look59 : look tab 59 = some ⟨1,24,[(.slice none 0 0)],(.slice 128)⟩ := rfl
@[go_sem] theorem look61 : look tab 61 = some ⟨1,24,[(.slice none 0 0)],(.slice 27)⟩ := rfl
@[go_sem] theorem look62 : look tab 62 = some ⟨1,24,[(.slice none 0 0)],(.slice 133)⟩ := rfl
@[go_sem] theorem look63 : look tab 63 = some ⟨2,48,[(.slice none 0 0),(.slice none 0 0)],(.struct [(61,0),(62,1)])⟩ := rfl
@[go_sem] theorem look64 : look tab 64 = some ⟨2,48,[(.slice none 0 0),(.slice none 0 0)],(.struct [(61,0),(62,1)])⟩ := rfl
@[go_sem] theorem look65 : look tab 65 = some ⟨1,24,[(.slice none 0 0)],(.slice 3)⟩ := rfl
@[go_sem] theorem look70 : look tab 70 = some ⟨1,24,[(.slice none 0 0)],(.slice 74)⟩ := rfl
@[go_sem] theorem look73 : look tab 73 = some ⟨2,16,[(.int .i64 0),(.int .i64 0)],(.struct [(3,0),(3,1)])⟩ := rfl
@[go_sem] theorem look74 : look tab 74 = some ⟨2,16,[(.int .i64 0),(.int .i64 0)],(.struct [(3,0),(3,1)])⟩ := rfl
@[go_sem] theorem look81 : look tab 81 = some ⟨1,24,[(.slice none 0 0)],(.slice 54)⟩ := rfl
@[go_sem] theorem look82 : look tab 82 = some ⟨1,24,[(.slice none 0 0)],(.slice 197)⟩ := rfl
@[go_sem] theorem look83 : look tab 83 = some ⟨2,48,[(.slice none 0 0),(.slice none 0 0)],(.struct [(81,0),(82,1)])⟩ := rfl
@[go_sem] theorem look84 : look tab 84 = some ⟨2,48,[(.slice none 0 0),(.slice none 0 0)],(.struct [(81,0),(82,1)])⟩ := rfl
@[go_sem] theorem look91 : look tab 91 = some ⟨1,24,[(.slice none 0 0)],(.slice 158)⟩ := rfl
@[go_sem] theorem look98 : look tab 98 = some ⟨1,8,[(.pointer none)],.flat⟩ := rfl
@[go_sem] theorem look99 : look tab 99 = some ⟨1,8,[(.int .u64 0)],(.int .u64)⟩ := rfl
@[go_sem] theorem look100 : look tab 100 = some ⟨3,40,[(.slice none 0 0),(.int .i64 0),(.int .u64 0)],(.struct [(22,0),(3,1),(99,2)])⟩ := rfl
@[go_sem] theorem look101 : look tab 101 = some ⟨3,40,[(.slice none 0 0),(.int .i64 0),(.int .u64 0)],(.struct [(22,0),(3,1),(99,2)])⟩ := rfl
@[go_sem] theorem look127 : look tab 127 = some ⟨5,48,[(.int .i64 0),(.int .i64 0),(.int .i64 0),(.string .empty),(.int .i64 0)],(.struct [(3,0),(3,1),(3,2),(9,3),(3,4)])⟩ := rfl
@[go_sem] theorem look128 : look tab 128 = some ⟨5,48,[(.int .i64 0),(.int .i64 0),(.int .i64 0),(.string .empty),(.int .i64 0)],(.struct [(3,0),(3,1),(3,2),(9,3),(3,4)])⟩ := rfl
@[go_sem] theorem look132 : look tab 132 = some ⟨3,40,[(.int .i64 0),(.int .i64 0),(.slice none 0 0)],(.struct [(3,0),(29,1)])⟩ := rfl
@[go_sem] theorem look133 : look tab 133 = some ⟨3,40,[(.int .i64 0),(.int .i64 0),(.slice none 0 0)],(.struct [(3,0),(29,1)])⟩ := rfl
@[go_sem] theorem look134 : look tab 134 = some ⟨4,40,[(.int .i64 0),(.int .i64 0),(.int .i64 0),(.string .empty)],(.struct [(3,0),(3,1),(3,2),(9,3)])⟩ := rfl
@[go_sem] theorem look135 : look tab 135 = some ⟨4,40,[(.int .i64 0),(.int .i64 0),(.int .i64 0),(.string .empty)],(.struct [(3,0),(3,1),(3,2),(9,3)])⟩ := rfl
@[go_sem] theorem look152 : look tab 152 = some ⟨1,8,[(.pointer none)],.flat⟩ := rfl
@[go_sem] theorem look158 : look tab 158 = some ⟨5,48,[(.int .i64 0),(.int .i64 0),(.int .i64 0),(.string .empty),(.int .i64 0)],(.struct [(3,0),(3,1),(3,2),(9,3),(3,4)])⟩ := rfl
@[go_sem] theorem look182 : look tab 182 = some ⟨1,8,[(.pointer none)],.flat⟩ := rfl
@[go_sem] theorem look188 : look tab 188 = some ⟨6,80,[(.int .i64 0),(.int .i64 0),(.bool false),(.int .i64 0),(.slice none 0 0),(.slice none 0 0)],(.struct [(3,0),(3,1),(4,2),(3,3),(44,4),(44,5)])⟩ := rfl
@[go_sem] theorem look189 : look tab 189 = some ⟨6,80,[(.int .i64 0),(.int .i64 0),(.bool false),(.int .i64 0),(.slice none 0 0),(.slice none 0 0)],(.struct [(3,0),(3,1),(4,2),(3,3),(44,4),(44,5)])⟩ := rfl
@[go_sem] theorem look194 : look tab 194 = some ⟨2,32,[(.int .i64 0),(.slice none 0 0)],(.struct [(3,0),(52,1)])⟩ := rfl
@[go_sem] theorem look195 : look tab 195 = some ⟨2,32,[(.int .i64 0),(.slice none 0 0)],(.struct [(3,0),(52,1)])⟩ := rfl
@[go_sem] theorem look196 : look tab 196 = some ⟨3,40,[(.int .i64 0),(.int .i64 0),(.slice none 0 0)],(.struct [(3,0),(195,1)])⟩ := rfl
@[go_sem] theorem look197 : look tab 197 = some ⟨3,40,[(.int .i64 0),(.int .i64 0),(.slice none 0 0)],(.struct [(3,0),(195,1)])⟩ := rfl
@[go_sem] theorem look205 : look tab 205 = some ⟨1,8,[(.int .u64 0)],(.int .u64)⟩ := rfl
@[go_sem] theorem look229 : look tab 229 = some ⟨1,24,[(.slice none 0 0)],(.slice 280)⟩ := rfl
@[go_sem] theorem look230 : look tab 230 = some ⟨1,24,[(.slice none 0 0)],(.struct [(229,0)])⟩ := rfl
@[go_sem] theorem look231 : look tab 231 = some ⟨1,24,[(.slice none 0 0)],(.struct [(229,0)])⟩ := rfl
@[go_sem] theorem look249 : look tab 249 = some ⟨1,8,[(.int .i64 0)],(.int .i64)⟩ := rfl
@[go_sem] theorem look257 : look tab 257 = some ⟨1,4,[(.int .u32 0)],(.int .u32)⟩ := rfl
@[go_sem] theorem look267 : look tab 267 = some ⟨1,8,[(.pointer none)],.flat⟩ := rfl
@[go_sem] theorem look271 : look tab 271 = some ⟨1,8,[(.pointer none)],.flat⟩ := rfl
@[go_sem] theorem look273 : look tab 273 = some ⟨1,8,[(.int .u64 0)],(.int .u64)⟩ := rfl
@[go_sem] theorem look277 : look tab 277 = some ⟨1,8,[(.pointer none)],.flat⟩ := rfl
@[go_sem] theorem look280 : look tab 280 = some ⟨4,40,[(.int .i64 0),(.int .i64 0),(.int .i64 0),(.string .empty)],(.struct [(3,0),(3,1),(3,2),(9,3)])⟩ := rfl
@[go_sem] theorem look296 : look tab 296 = some ⟨1,8,[(.pointer none)],.flat⟩ := rfl
@[go_sem] theorem look305 : look tab 305 = some ⟨2,2,[(.int .u8 0),(.int .u8 0)],(.struct [(5,0),(5,1)])⟩ := rfl
@[go_sem] theorem look306 : look tab 306 = some ⟨2,2,[(.int .u8 0),(.int .u8 0)],(.struct [(5,0),(5,1)])⟩ := rfl
@[go_sem] theorem look311 : look tab 311 = some ⟨4,40,[(.pointer none),(.pointer none),(.pointer none),(.string .empty)],(.struct [(17,0),(17,1),(17,2),(9,3)])⟩ := rfl
@[go_sem] theorem look312 : look tab 312 = some ⟨4,40,[(.pointer none),(.pointer none),(.pointer none),(.string .empty)],(.struct [(17,0),(17,1),(17,2),(9,3)])⟩ := rfl
@[go_sem] theorem look314 : look tab 314 = some ⟨0,0,[],(.struct [(313,0)])⟩ := rfl
@[go_sem] theorem look315 : look tab 315 = some ⟨0,0,[],(.struct [(313,0)])⟩ := rfl
@[go_sem] theorem look316 : look tab 316 = some ⟨1,1,[(.int .u8 0)],(.int .u8)⟩ := rfl
@[go_sem] theorem look317 : look tab 317 = some ⟨1,1,[(.int .u8 0)],(.int .u8)⟩ := rfl
@[go_sem] theorem look319 : look tab 319 = some ⟨1,8,[(.pointer none)],.flat⟩ := rfl
@[go_sem] theorem look320 : look tab 320 = some ⟨1,4,[(.int .i32 0)],(.int .i32)⟩ := rfl
@[go_sem] theorem look321 : look tab 321 = some ⟨1,4,[(.int .i32 0)],(.int .i32)⟩ := rfl
theorem mixed : Tryz.prog.follows .mixedOrders = true := by kernel_rfl
end Go.TL.YteonagfnhdlfcaaGreatDoor
