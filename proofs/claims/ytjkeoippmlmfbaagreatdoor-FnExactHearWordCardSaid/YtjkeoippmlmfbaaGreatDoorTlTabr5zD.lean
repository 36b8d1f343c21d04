import Derived.Test.YtjkeoippmlmfbaaGreatDoorTlAttr
import Derived.Test.YtjkeoippmlmfbaaGreatDoorProg
import Derived.KernelRfl
set_option linter.unusedSimpArgs false
set_option linter.unusedVariables false
namespace Go.TL.YtjkeoippmlmfbaaGreatDoor
open Go Go.Proofs
theorem tab_cons {P : Program} {t : Nat} {e : TE} {r : Tab} (h : OkT P t e) (k : TabOk P r) : TabOk P ((t,e) :: r) := fun p hp => by
  rcases List.mem_cons.1 hp with rfl | hp
  · exact h
  · exact k p hp
theorem tab_nil {P : Program} : TabOk P [] := fun p hp => by cases hp
def tab : Tab := [(2,⟨1,8,[(.int .i64 0)],(.int .i64)⟩),(3,⟨1,8,[(.int .i64 0)],(.int .i64)⟩),(4,⟨1,1,[(.bool false)],.bool⟩),(5,⟨1,1,[(.int .u8 0)],(.int .u8)⟩),(6,⟨1,1,[(.int .u8 0)],(.int .u8)⟩),(7,⟨4,24,[(.int .i64 0),(.int .i64 0),(.bool false),(.int .u8 0)],(.struct [(2,0),(3,1),(4,2),(6,3)])⟩),(8,⟨4,24,[(.int .i64 0),(.int .i64 0),(.bool false),(.int .u8 0)],(.struct [(2,0),(3,1),(4,2),(6,3)])⟩),(9,⟨1,16,[(.string .empty)],.str⟩),(10,⟨1,16,[(.string .empty)],.str⟩),(11,⟨1,16,[(.string .empty)],.str⟩),(12,⟨1,8,[(.int .u64 0)],(.int .u64)⟩),(13,⟨2,24,[(.string .empty),(.int .u64 0)],(.struct [(9,0),(12,1)])⟩),(14,⟨2,24,[(.string .empty),(.int .u64 0)],(.struct [(9,0),(12,1)])⟩),(15,⟨1,8,[(.pointer none)],.flat⟩),(16,⟨1,8,[(.pointer none)],.flat⟩),(17,⟨1,8,[(.pointer none)],.flat⟩),(18,⟨1,8,[(.pointer none)],(.struct [(17,0)])⟩),(19,⟨1,8,[(.pointer none)],(.struct [(17,0)])⟩),(21,⟨1,4,[(.int .i32 0)],(.int .i32)⟩),(22,⟨1,24,[(.slice none 0 0)],(.slice 173)⟩),(23,⟨1,24,[(.slice none 0 0)],(.struct [(22,0)])⟩),(24,⟨1,24,[(.slice none 0 0)],(.struct [(22,0)])⟩),(26,⟨1,24,[(.slice none 0 0)],(.slice 109)⟩),(29,⟨1,24,[(.slice none 0 0)],(.slice 93)⟩),(30,⟨1,24,[(.slice none 0 0)],(.struct [(29,0)])⟩),(31,⟨1,24,[(.slice none 0 0)],(.struct [(29,0)])⟩),(38,⟨3,40,[(.int .i64 0),(.int .i64 0),(.slice none 0 0)],(.struct [(3,0),(3,1),(24,2)])⟩),(39,⟨3,40,[(.int .i64 0),(.int .i64 0),(.slice none 0 0)],(.struct [(3,0),(3,1),(24,2)])⟩),(41,⟨2,32,[(.int .i64 0),(.slice none 0 0)],(.struct [(3,0),(31,1)])⟩),(42,⟨2,32,[(.int .i64 0),(.slice none 0 0)],(.struct [(3,0),(31,1)])⟩),(45,⟨3,40,[(.int .i64 0),(.int .i64 0),(.slice none 0 0)],(.struct [(3,0),(3,1),(31,2)])⟩),(46,⟨3,40,[(.int .i64 0),(.int .i64 0),(.slice none 0 0)],(.struct [(3,0),(3,1),(31,2)])⟩),(53,⟨1,24,[(.slice none 0 0)],(.slice 9)⟩),(54,⟨6,80,[(.int .i64 0),(.int .i64 0),(.bool false),(.int .i64 0),(.slice none 0 0),(.slice none 0 0)],(.struct [(3,0),(3,1),(4,2),(3,3),(53,4),(53,5)])⟩),(55,⟨6,80,[(.int .i64 0),(.int .i64 0),(.bool false),(.int .i64 0),(.slice none 0 0),(.slice none 0 0)],(.struct [(3,0),(3,1),(4,2),(3,3),(53,4),(53,5)])⟩),(62,⟨1,24,[(.slice none 0 0)],(.slice 39)⟩),(63,⟨1,24,[(.slice none 0 0)],(.slice 187)⟩),(64,⟨2,48,[(.slice none 0 0),(.slice none 0 0)],(.struct [(62,0),(63,1)])⟩),(65,⟨2,48,[(.slice none 0 0),(.slice none 0 0)],(.struct [(62,0),(63,1)])⟩),(67,⟨1,24,[(.slice none 0 0)],(.slice 3)⟩),(70,⟨1,24,[(.slice none 0 0)],(.slice 46)⟩),(71,⟨1,24,[(.slice none 0 0)],(.slice 189)⟩),(72,⟨2,48,[(.slice none 0 0),(.slice none 0 0)],(.struct [(70,0),(71,1)])⟩),(73,⟨2,48,[(.slice none 0 0),(.slice none 0 0)],(.struct [(70,0),(71,1)])⟩),(80,⟨1,24,[(.slice none 0 0)],(.slice 150)⟩),(86,⟨1,24,[(.slice none 0 0)],(.slice 5)⟩),(91,⟨1,24,[(.slice none 0 0)],(.slice 31)⟩),(92,⟨1,24,[(.slice none 0 0)],(.struct [(26,0)])⟩),(93,⟨1,24,[(.slice none 0 0)],(.struct [(26,0)])⟩),(108,⟨4,40,[(.int .i64 0),(.int .i64 0),(.int .i64 0),(.string .empty)],(.struct [(3,0),(3,1),(3,2),(9,3)])⟩),(109,⟨4,40,[(.int .i64 0),(.int .i64 0),(.int .i64 0),(.string .empty)],(.struct [(3,0),(3,1),(3,2),(9,3)])⟩),(114,⟨2,32,[(.int .i64 0),(.slice none 0 0)],(.struct [(3,0),(24,1)])⟩),(115,⟨2,32,[(.int .i64 0),(.slice none 0 0)],(.struct [(3,0),(24,1)])⟩),(150,⟨4,40,[(.int .i64 0),(.int .i64 0),(.int .i64 0),(.string .empty)],(.struct [(3,0),(3,1),(3,2),(9,3)])⟩),(155,⟨1,8,[(.pointer none)],.flat⟩),(156,⟨1,8,[(.int .u64 0)],(.int .u64)⟩),(157,⟨3,40,[(.slice none 0 0),(.int .i64 0),(.int .u64 0)],(.struct [(86,0),(3,1),(156,2)])⟩),(158,⟨3,40,[(.slice none 0 0),(.int .i64 0),(.int .u64 0)],(.struct [(86,0),(3,1),(156,2)])⟩),(172,⟨1,24,[(.slice none 0 0)],(.struct [(80,0)])⟩),(173,⟨1,24,[(.slice none 0 0)],(.struct [(80,0)])⟩),(183,⟨1,8,[(.pointer none)],.flat⟩),(186,⟨3,40,[(.int .i64 0),(.int .i64 0),(.slice none 0 0)],(.struct [(3,0),(115,1)])⟩),(187,⟨3,40,[(.int .i64 0),(.int .i64 0),(.slice none 0 0)],(.struct [(3,0),(115,1)])⟩),(188,⟨3,40,[(.int .i64 0),(.int .i64 0),(.slice none 0 0)],(.struct [(3,0),(42,1)])⟩),(189,⟨3,40,[(.int .i64 0),(.int .i64 0),(.slice none 0 0)],(.struct [(3,0),(42,1)])⟩),(214,⟨1,8,[(.int .u64 0)],(.int .u64)⟩),(225,⟨1,8,[(.int .i64 0)],(.int .i64)⟩),(232,⟨1,4,[(.int .u32 0)],(.int .u32)⟩),(242,⟨1,8,[(.pointer none)],.flat⟩),(243,⟨1,8,[(.int .u64 0)],(.int .u64)⟩),(247,⟨1,8,[(.pointer none)],.flat⟩),(256,⟨1,8,[(.pointer none)],.flat⟩),(266,⟨1,8,[(.pointer none)],.flat⟩),(274,⟨2,2,[(.int .u8 0),(.int .u8 0)],(.struct [(5,0),(5,1)])⟩),(275,⟨2,2,[(.int .u8 0),(.int .u8 0)],(.struct [(5,0),(5,1)])⟩),(279,⟨4,40,[(.pointer none),(.pointer none),(.pointer none),(.string .empty)],(.struct [(17,0),(17,1),(17,2),(9,3)])⟩),(280,⟨4,40,[(.pointer none),(.pointer none),(.pointer none),(.string .empty)],(.struct [(17,0),(17,1),(17,2),(9,3)])⟩),(282,⟨0,0,[],(.struct [(281,0)])⟩),(283,⟨0,0,[],(.struct [(281,0)])⟩),(284,⟨1,1,[(.int .u8 0)],(.int .u8)⟩),(285,⟨1,1,[(.int .u8 0)],(.int .u8)⟩),(287,⟨1,8,[(.pointer none)],.flat⟩),(288,⟨1,4,[(.int .i32 0)],(.int .i32)⟩),(289,⟨1,4,[(.int .i32 0)],(.int .i32)⟩)]
theorem ok2 : OkT Tryz.prog 2 ⟨1,8,[(.int .i64 0)],(.int .i64)⟩ := ⟨by kernel_rfl,by kernel_rfl⟩
theorem ok3 : OkT Tryz.prog 3 ⟨1,8,[(.int .i64 0)],(.int .i64)⟩ := ⟨by kernel_rfl,by kernel_rfl⟩
theorem ok4 : OkT Tryz.prog 4 ⟨1,1,[(.bool false)],.bool⟩ := ⟨by kernel_rfl,by kernel_rfl⟩
theorem ok5 : OkT Tryz.prog 5 ⟨1,1,[(.int .u8 0)],(.int .u8)⟩ := ⟨by kernel_rfl,by kernel_rfl⟩
theorem ok6 : OkT Tryz.prog 6 ⟨1,1,[(.int .u8 0)],(.int .u8)⟩ := ⟨by kernel_rfl,by kernel_rfl⟩
theorem ok7 : OkT Tryz.prog 7 ⟨4,24,[(.int .i64 0),(.int .i64 0),(.bool false),(.int .u8 0)],(.struct [(2,0),(3,1),(4,2),(6,3)])⟩ := ⟨by kernel_rfl,by kernel_rfl⟩
theorem ok8 : OkT Tryz.prog 8 ⟨4,24,[(.int .i64 0),(.int .i64 0),(.bool false),(.int .u8 0)],(.struct [(2,0),(3,1),(4,2),(6,3)])⟩ := ⟨by kernel_rfl,by kernel_rfl⟩
theorem ok9 : OkT Tryz.prog 9 ⟨1,16,[(.string .empty)],.str⟩ := ⟨by kernel_rfl,by kernel_rfl⟩
theorem ok10 : OkT Tryz.prog 10 ⟨1,16,[(.string .empty)],.str⟩ := ⟨by kernel_rfl,by kernel_rfl⟩
theorem ok11 : OkT Tryz.prog 11 ⟨1,16,[(.string .empty)],.str⟩ := ⟨by kernel_rfl,by kernel_rfl⟩
theorem ok12 : OkT Tryz.prog 12 ⟨1,8,[(.int .u64 0)],(.int .u64)⟩ := ⟨by kernel_rfl,by kernel_rfl⟩
theorem ok13 : OkT Tryz.prog 13 ⟨2,24,[(.string .empty),(.int .u64 0)],(.struct [(9,0),(12,1)])⟩ := ⟨by kernel_rfl,by kernel_rfl⟩
theorem ok14 : OkT Tryz.prog 14 ⟨2,24,[(.string .empty),(.int .u64 0)],(.struct [(9,0),(12,1)])⟩ := ⟨by kernel_rfl,by kernel_rfl⟩
theorem ok15 : OkT Tryz.prog 15 ⟨1,8,[(.pointer none)],.flat⟩ := ⟨by kernel_rfl,by kernel_rfl⟩
theorem ok16 : OkT Tryz.prog 16 ⟨1,8,[(.pointer none)],.flat⟩ := ⟨by kernel_rfl,by kernel_rfl⟩
theorem ok17 : OkT Tryz.prog 17 ⟨1,8,[(.pointer none)],.flat⟩ := ⟨by kernel_rfl,by kernel_rfl⟩
theorem ok18 : OkT Tryz.prog 18 ⟨1,8,[(.pointer none)],(.struct [(17,0)])⟩ := ⟨by kernel_rfl,by kernel_rfl⟩
theorem ok19 : OkT Tryz.prog 19 ⟨1,8,[(.pointer none)],(.struct [(17,0)])⟩ := ⟨by kernel_rfl,by kernel_rfl⟩
theorem ok21 : OkT Tryz.prog 21 ⟨1,4,[(.int .i32 0)],(.int .i32)⟩ := ⟨by kernel_rfl,by kernel_rfl⟩
theorem ok22 : OkT Tryz.prog 22 ⟨1,24,[(.slice none 0 0)],(.slice 173)⟩ := ⟨by kernel_rfl,by kernel_rfl⟩
theorem ok23 : OkT Tryz.prog 23 ⟨1,24,[(.slice none 0 0)],(.struct [(22,0)])⟩ := ⟨by kernel_rfl,by kernel_rfl⟩
theorem ok24 : OkT Tryz.prog 24 ⟨1,24,[(.slice none 0 0)],(.struct [(22,0)])⟩ := ⟨by kernel_rfl,by kernel_rfl⟩
theorem ok26 : OkT Tryz.prog 26 ⟨1,24,[(.slice none 0 0)],(.slice 109)⟩ := ⟨by kernel_rfl,by kernel_rfl⟩
theorem ok29 : OkT Tryz.prog 29 ⟨1,24,[(.slice none 0 0)],(.slice 93)⟩ := ⟨by kernel_rfl,by kernel_rfl⟩
theorem ok30 : OkT Tryz.prog 30 ⟨1,24,[(.slice none 0 0)],(.struct [(29,0)])⟩ := ⟨by kernel_rfl,by kernel_rfl⟩
theorem ok31 : OkT Tryz.prog 31 ⟨1,24,[(.slice none 0 0)],(.struct [(29,0)])⟩ := ⟨by kernel_rfl,by kernel_rfl⟩
theorem ok38 : OkT Tryz.prog 38 ⟨3,40,[(.int .i64 0),(.int .i64 0),(.slice none 0 0)],(.struct [(3,0),(3,1),(24,2)])⟩ := ⟨by kernel_rfl,by kernel_rfl⟩
theorem ok39 : OkT Tryz.prog 39 ⟨3,40,[(.int .i64 0),(.int .i64 0),(.slice none 0 0)],(.struct [(3,0),(3,1),(24,2)])⟩ := ⟨by kernel_rfl,by kernel_rfl⟩
theorem ok41 : OkT Tryz.prog 41 ⟨2,32,[(.int .i64 0),(.slice none 0 0)],(.struct [(3,0),(31,1)])⟩ := ⟨by kernel_rfl,by kernel_rfl⟩
theorem ok42 : OkT Tryz.prog 42 ⟨2,32,[(.int .i64 0),(.slice none 0 0)],(.struct [(3,0),(31,1)])⟩ := ⟨by kernel_rfl,by kernel_rfl⟩
theorem ok45 : OkT Tryz.prog 45 ⟨3,40,[(.int .i64 0),(.int .i64 0),(.slice none 0 0)],(.struct [(3,0),(3,1),(31,2)])⟩ := ⟨by kernel_rfl,by kernel_rfl⟩
theorem ok46 : OkT Tryz.prog 46 ⟨3,40,[(.int .i64 0),(.int .i64 0),(.slice none 0 0)],(.struct [(3,0),(3,1),(31,2)])⟩ := ⟨by kernel_rfl,by kernel_rfl⟩
theorem ok53 : OkT Tryz.prog 53 ⟨1,24,[(.slice none 0 0)],(.slice 9)⟩ := ⟨by kernel_rfl,by kernel_rfl⟩
theorem ok54 : OkT Tryz.prog 54 ⟨6,80,[(.int .i64 0),(.int .i64 0),(.bool false),(.int .i64 0),(.slice none 0 0),(.slice none 0 0)],(.struct [(3,0),(3,1),(4,2),(3,3),(53,4),(53,5)])⟩ := ⟨by kernel_rfl,by kernel_rfl⟩
theorem ok55 : OkT Tryz.prog 55 ⟨6,80,[(.int .i64 0),(.int .i64 0),(.bool false),(.int .i64 0),(.slice none 0 0),(.slice none 0 0)],(.struct [(3,0),(3,1),(4,2),(3,3),(53,4),(53,5)])⟩ := ⟨by kernel_rfl,by kernel_rfl⟩
theorem ok62 : OkT Tryz.prog 62 ⟨1,24,[(.slice none 0 0)],(.slice 39)⟩ := ⟨by kernel_rfl,by kernel_rfl⟩
theorem ok63 : OkT Tryz.prog 63 ⟨1,24,[(.slice none 0 0)],(.slice 187)⟩ := ⟨by kernel_rfl,by kernel_rfl⟩
theorem ok64 : OkT Tryz.prog 64 ⟨2,48,[(.slice none 0 0),(.slice none 0 0)],(.struct [(62,0),(63,1)])⟩ := ⟨by kernel_rfl,by kernel_rfl⟩
theorem ok65 : OkT Tryz.prog 65 ⟨2,48,[(.slice none 0 0),(.slice none 0 0)],(.struct [(62,0),(63,1)])⟩ := ⟨by kernel_rfl,by kernel_rfl⟩
theorem ok67 : OkT Tryz.prog 67 ⟨1,24,[(.slice none 0 0)],(.slice 3)⟩ := ⟨by kernel_rfl,by kernel_rfl⟩
theorem ok70 : OkT Tryz.prog 70 ⟨1,24,[(.slice none 0 0)],(.slice 46)⟩ := ⟨by kernel_rfl,by kernel_rfl⟩
theorem ok71 : OkT Tryz.prog 71 ⟨1,24,[(.slice none 0 0)],(.slice 189)⟩ := ⟨by kernel_rfl,by kernel_rfl⟩
theorem ok72 : OkT Tryz.prog 72 ⟨2,48,[(.slice none 0 0),(.slice none 0 0)],(.struct [(70,0),(71,1)])⟩ := ⟨by kernel_rfl,by kernel_rfl⟩
theorem ok73 : OkT Tryz.prog 73 ⟨2,48,[(.slice none 0 0),(.slice none 0 0)],(.struct [(70,0),(71,1)])⟩ := ⟨by kernel_rfl,by kernel_rfl⟩
theorem ok80 : OkT Tryz.prog 80 ⟨1,24,[(.slice none 0 0)],(.slice 150)⟩ := ⟨by kernel_rfl,by kernel_rfl⟩
theorem ok86 : OkT Tryz.prog 86 ⟨1,24,[(.slice none 0 0)],(.slice 5)⟩ := ⟨by kernel_rfl,by kernel_rfl⟩
theorem ok91 : OkT Tryz.prog 91 ⟨1,24,[(.slice none 0 0)],(.slice 31)⟩ := ⟨by kernel_rfl,by kernel_rfl⟩
theorem ok92 : OkT Tryz.prog 92 ⟨1,24,[(.slice none 0 0)],(.struct [(26,0)])⟩ := ⟨by kernel_rfl,by kernel_rfl⟩
theorem ok93 : OkT Tryz.prog 93 ⟨1,24,[(.slice none 0 0)],(.struct [(26,0)])⟩ := ⟨by kernel_rfl,by kernel_rfl⟩
theorem ok108 : OkT Tryz.prog 108 ⟨4,40,[(.int .i64 0),(.int .i64 0),(.int .i64 0),(.string .empty)],(.struct [(3,0),(3,1),(3,2),(9,3)])⟩ := ⟨by kernel_rfl,by kernel_rfl⟩
theorem ok109 : OkT Tryz.prog 109 ⟨4,40,[(.int .i64 0),(.int .i64 0),(.int .i64 0),(.string .empty)],(.struct [(3,0),(3,1),(3,2),(9,3)])⟩ := ⟨by kernel_rfl,by kernel_rfl⟩
theorem ok114 : OkT Tryz.prog 114 ⟨2,32,[(.int .i64 0),(.slice none 0 0)],(.struct [(3,0),(24,1)])⟩ := ⟨by kernel_rfl,by kernel_rfl⟩
theorem ok115 : OkT Tryz.prog 115 ⟨2,32,[(.int .i64 0),(.slice none 0 0)],(.struct [(3,0),(24,1)])⟩ := ⟨by kernel_rfl,by kernel_rfl⟩
theorem ok150 : OkT Tryz.prog 150 ⟨4,40,[(.int .i64 0),(.int .i64 0),(.int .i64 0),(.string .empty)],(.struct [(3,0),(3,1),(3,2),(9,3)])⟩ := ⟨by kernel_rfl,by kernel_rfl⟩
theorem ok155 : OkT Tryz.prog 155 ⟨1,8,[(.pointer none)],.flat⟩ := ⟨by kernel_rfl,by kernel_rfl⟩
theorem ok156 : OkT Tryz.prog 156 ⟨1,8,[(.int .u64 0)],(.int .u64)⟩ := ⟨by kernel_rfl,by kernel_rfl⟩
theorem ok157 : OkT Tryz.prog 157 ⟨3,40,[(.slice none 0 0),(.int .i64 0),(.int .u64 0)],(.struct [(86,0),(3,1),(156,2)])⟩ := ⟨by kernel_rfl,by kernel_rfl⟩
theorem ok158 : OkT Tryz.prog 158 ⟨3,40,[(.slice none 0 0),(.int .i64 0),(.int .u64 0)],(.struct [(86,0),(3,1),(156,2)])⟩ := ⟨by kernel_rfl,by kernel_rfl⟩
theorem ok172 : OkT Tryz.prog 172 ⟨1,24,[(.slice none 0 0)],(.struct [(80,0)])⟩ := ⟨by kernel_rfl,by kernel_rfl⟩
theorem ok173 : OkT Tryz.prog 173 ⟨1,24,[(.slice none 0 0)],(.struct [(80,0)])⟩ := ⟨by kernel_rfl,by kernel_rfl⟩
theorem ok183 : OkT Tryz.prog 183 ⟨1,8,[(.pointer none)],.flat⟩ := ⟨by kernel_rfl,by kernel_rfl⟩
theorem ok186 : OkT Tryz.prog 186 ⟨3,40,[(.int .i64 0),(.int .i64 0),(.slice none 0 0)],(.struct [(3,0),(115,1)])⟩ := ⟨by kernel_rfl,by kernel_rfl⟩
theorem ok187 : OkT Tryz.prog 187 ⟨3,40,[(.int .i64 0),(.int .i64 0),(.slice none 0 0)],(.struct [(3,0),(115,1)])⟩ := ⟨by kernel_rfl,by kernel_rfl⟩
theorem ok188 : OkT Tryz.prog 188 ⟨3,40,[(.int .i64 0),(.int .i64 0),(.slice none 0 0)],(.struct [(3,0),(42,1)])⟩ := ⟨by kernel_rfl,by kernel_rfl⟩
theorem ok189 : OkT Tryz.prog 189 ⟨3,40,[(.int .i64 0),(.int .i64 0),(.slice none 0 0)],(.struct [(3,0),(42,1)])⟩ := ⟨by kernel_rfl,by kernel_rfl⟩
theorem ok214 : OkT Tryz.prog 214 ⟨1,8,[(.int .u64 0)],(.int .u64)⟩ := ⟨by kernel_rfl,by kernel_rfl⟩
theorem ok225 : OkT Tryz.prog 225 ⟨1,8,[(.int .i64 0)],(.int .i64)⟩ := ⟨by kernel_rfl,by kernel_rfl⟩
theorem ok232 : OkT Tryz.prog 232 ⟨1,4,[(.int .u32 0)],(.int .u32)⟩ := ⟨by kernel_rfl,by kernel_rfl⟩
theorem ok242 : OkT Tryz.prog 242 ⟨1,8,[(.pointer none)],.flat⟩ := ⟨by kernel_rfl,by kernel_rfl⟩
theorem ok243 : OkT Tryz.prog 243 ⟨1,8,[(.int .u64 0)],(.int .u64)⟩ := ⟨by kernel_rfl,by kernel_rfl⟩
theorem ok247 : OkT Tryz.prog 247 ⟨1,8,[(.pointer none)],.flat⟩ := ⟨by kernel_rfl,by kernel_rfl⟩
theorem ok256 : OkT Tryz.prog 256 ⟨1,8,[(.pointer none)],.flat⟩ := ⟨by kernel_rfl,by kernel_rfl⟩
theorem ok266 : OkT Tryz.prog 266 ⟨1,8,[(.pointer none)],.flat⟩ := ⟨by kernel_rfl,by kernel_rfl⟩
theorem ok274 : OkT Tryz.prog 274 ⟨2,2,[(.int .u8 0),(.int .u8 0)],(.struct [(5,0),(5,1)])⟩ := ⟨by kernel_rfl,by kernel_rfl⟩
theorem ok275 : OkT Tryz.prog 275 ⟨2,2,[(.int .u8 0),(.int .u8 0)],(.struct [(5,0),(5,1)])⟩ := ⟨by kernel_rfl,by kernel_rfl⟩
theorem ok279 : OkT Tryz.prog 279 ⟨4,40,[(.pointer none),(.pointer none),(.pointer none),(.string .empty)],(.struct [(17,0),(17,1),(17,2),(9,3)])⟩ := ⟨by kernel_rfl,by kernel_rfl⟩
theorem ok280 : OkT Tryz.prog 280 ⟨4,40,[(.pointer none),(.pointer none),(.pointer none),(.string .empty)],(.struct [(17,0),(17,1),(17,2),(9,3)])⟩ := ⟨by kernel_rfl,by kernel_rfl⟩
theorem ok282 : OkT Tryz.prog 282 ⟨0,0,[],(.struct [(281,0)])⟩ := ⟨by kernel_rfl,by kernel_rfl⟩
theorem ok283 : OkT Tryz.prog 283 ⟨0,0,[],(.struct [(281,0)])⟩ := ⟨by kernel_rfl,by kernel_rfl⟩
theorem ok284 : OkT Tryz.prog 284 ⟨1,1,[(.int .u8 0)],(.int .u8)⟩ := ⟨by kernel_rfl,by kernel_rfl⟩
theorem ok285 : OkT Tryz.prog 285 ⟨1,1,[(.int .u8 0)],(.int .u8)⟩ := ⟨by kernel_rfl,by kernel_rfl⟩
theorem ok287 : OkT Tryz.prog 287 ⟨1,8,[(.pointer none)],.flat⟩ := ⟨by kernel_rfl,by kernel_rfl⟩
theorem ok288 : OkT Tryz.prog 288 ⟨1,4,[(.int .i32 0)],(.int .i32)⟩ := ⟨by kernel_rfl,by kernel_rfl⟩
theorem ok289 : OkT Tryz.prog 289 ⟨1,4,[(.int .i32 0)],(.int .i32)⟩ := ⟨by kernel_rfl,by kernel_rfl⟩
theorem tab_ok : TabOk Tryz.prog tab := tab_cons ok2 <| tab_cons ok3 <| tab_cons ok4 <| tab_cons ok5 <| tab_cons ok6 <| tab_cons ok7 <| tab_cons ok8 <| tab_cons ok9 <| tab_cons ok10 <| tab_cons ok11 <| tab_cons ok12 <| tab_cons ok13 <| tab_cons ok14 <| tab_cons ok15 <| tab_cons ok16 <| tab_cons ok17 <| tab_cons ok18 <| tab_cons ok19 <| tab_cons ok21 <| tab_cons ok22 <| tab_cons ok23 <| tab_cons ok24 <| tab_cons ok26 <| tab_cons ok29 <| tab_cons ok30 <| tab_cons ok31 <| tab_cons ok38 <| tab_cons ok39 <| tab_cons ok41 <| tab_cons ok42 <| tab_cons ok45 <| tab_cons ok46 <| tab_cons ok53 <| tab_cons ok54 <| tab_cons ok55 <| tab_cons ok62 <| tab_cons ok63 <| tab_cons ok64 <| tab_cons ok65 <| tab_cons ok67 <| tab_cons ok70 <| tab_cons ok71 <| tab_cons ok72 <| tab_cons ok73 <| tab_cons ok80 <| tab_cons ok86 <| tab_cons ok91 <| tab_cons ok92 <| tab_cons ok93 <| tab_cons ok108 <| tab_cons ok109 <| tab_cons ok114 <| tab_cons ok115 <| tab_cons ok150 <| tab_cons ok155 <| tab_cons ok156 <| tab_cons ok157 <| tab_cons ok158 <| tab_cons ok172 <| tab_cons ok173 <| tab_cons ok183 <| tab_cons ok186 <| tab_cons ok187 <| tab_cons ok188 <| tab_cons ok189 <| tab_cons ok214 <| tab_cons ok225 <| tab_cons ok232 <| tab_cons ok242 <| tab_cons ok243 <| tab_cons ok247 <| tab_cons ok256 <| tab_cons ok266 <| tab_cons ok274 <| tab_cons ok275 <| tab_cons ok279 <| tab_cons ok280 <| tab_cons ok282 <| tab_cons ok283 <| tab_cons ok284 <| tab_cons ok285 <| tab_cons ok287 <| tab_cons ok288 <| tab_cons ok289 <| tab_nil
@[go_sem] theorem look2 : look tab 2 = some ⟨1,8,[(.int .i64 0)],(.int .i64)⟩ := rfl
@[go_sem] theorem look3 : look tab 3 = some ⟨1,8,[(.int .i64 0)],(.int .i64)⟩ := rfl
@[go_sem] theorem look4 : look tab 4 = some ⟨1,1,[(.bool false)],.bool⟩ := rfl
@[go_sem] theorem look5 : look tab 5 = some ⟨1,1,[(.int .u8 0)],(.int .u8)⟩ := rfl
@[go_sem] theorem look6 : look tab 6 = some ⟨1,1,[(.int .u8 0)],(.int .u8)⟩ := rfl
@[go_sem] theorem look7 : look tab 7 = some ⟨4,24,[(.int .i64 0),(.int .i64 0),(.bool false),(.int .u8 0)],(.struct [(2,0),(3,1),(4,2),(6,3)])⟩ := rfl
@[go_sem] theorem look8 : look tab 8 = some ⟨4,24,[(.int .i64 0),(.int .i64 0),(.bool false),(.int .u8 0)],(.struct [(2,0),(3,1),(4,2),(6,3)])⟩ := rfl
@[go_sem] theorem look9 : look tab 9 = some ⟨1,16,[(.string .empty)],.str⟩ := rfl
@[go_sem] theorem look10 : look tab 10 = some ⟨1,16,[(.string .empty)],.str⟩ := rfl
@[go_sem] theorem look11 : look tab 11 = some ⟨1,16,[(.string .empty)],.str⟩ := rfl
@[go_sem] theorem look12 : look tab 12 = some ⟨1,8,[(.int .u64 0)],(.int .u64)⟩ := rfl
@[go_sem] theorem look13 : look tab 13 = some ⟨2,24,[(.string .empty),(.int .u64 0)],(.struct [(9,0),(12,1)])⟩ := rfl
@[go_sem] theorem look14 : look tab 14 = some ⟨2,24,[(.string .empty),(.int .u64 0)],(.struct [(9,0),(12,1)])⟩ := rfl
@[go_sem] theorem look15 : look tab 15 = some ⟨1,8,[(.pointer none)],.flat⟩ := rfl
@[go_sem] theorem look16 : look tab 16 = some ⟨1,8,[(.pointer none)],.flat⟩ := rfl
@[go_sem] theorem look17 : look tab 17 = some ⟨1,8,[(.pointer none)],.flat⟩ := rfl
@[go_sem] theorem look18 : look tab 18 = some ⟨1,8,[(.pointer none)],(.struct [(17,0)])⟩ := rfl
@[go_sem] theorem look19 : look tab 19 = some ⟨1,8,[(.pointer none)],(.struct [(17,0)])⟩ := rfl
@[go_sem] theorem look21 : look tab 21 = some ⟨1,4,[(.int .i32 0)],(.int .i32)⟩ := rfl
@[go_sem] theorem look22 : look tab 22 = some ⟨1,24,[(.slice none 0 0)],(.slice 173)⟩ := rfl
@[go_sem] theorem look23 : look tab 23 = some ⟨1,24,[(.slice none 0 0)],(.struct [(22,0)])⟩ := rfl
@[go_sem] theorem look24 : look tab 24 = some ⟨1,24,[(.slice none 0 0)],(.struct [(22,0)])⟩ := rfl
@[go_sem] theorem look26 : look tab 26 = some ⟨1,24,[(.slice none 0 0)],(.slice 109)⟩ := rfl
@[go_sem] theorem look29 : look tab 29 = some ⟨1,24,[(.slice none 0 0)],(.slice 93)⟩ := rfl
@[go_sem] theorem look30 : look tab 30 = some ⟨1,24,[(.slice none 0 0)],(.struct [(29,0)])⟩ := rfl
@[go_sem] theorem look31 : look tab 31 = some ⟨1,24,[(.slice none 0 0)],(.struct [(29,0)])⟩ := rfl
@[go_sem] theorem look38 : look tab 38 = some ⟨3,40,[(.int .i64 0),(.int .i64 0),(.slice none 0 0)],(.struct [(3,0),(3,1),(24,2)])⟩ := rfl
@[go_sem] theorem look39 : look tab 39 = some ⟨3,40,[(.int .i64 0),(.int .i64 0),(.slice none 0 0)],(.struct [(3,0),(3,1),(24,2)])⟩ := rfl
@[go_sem] theorem look41 : look tab 41 = some ⟨2,32,[(.int .i64 0),(.slice none 0 0)],(.struct [(3,0),(31,1)])⟩ := rfl
@[go_sem] theorem look42 : look tab 42 = some ⟨2,32,[(.int .i64 0),(.slice none 0 0)],(.struct [(3,0),(31,1)])⟩ := rfl
@[go_sem] theorem look45 : look tab 45 = some ⟨3,40,[(.int .i64 0),(.int .i64 0),(.slice none 0 0)],(.struct [(3,0),(3,1),(31,2)])⟩ := rfl
@[go_sem] theorem look46 : look tab 46 = some ⟨3,40,[(.int .i64 0),(.int .i64 0),(.slice none 0 0)],(.struct [(3,0),(3,1),(31,2)])⟩ := rfl
@[go_sem] theorem look53 : look tab 53 = some ⟨1,24,[(.slice none 0 0)],(.slice 9)⟩ := rfl
@[go_sem] theorem look54 : look tab 54 = some ⟨6,80,[(.int .i64 0),(.int .i64 0),(.bool false),(.int .i64 0),(.slice none 0 0),(.slice none 0 0)],(.struct [(3,0),(3,1),(4,2),(3,3),(53,4),(53,5)])⟩ := rfl
@[go_sem] theorem look55 : look tab 55 = some ⟨6,80,[(.int .i64 0),(.int .i64 0),(.bool false),(.int .i64 0),(.slice none 0 0),(.slice none 0 0)],(.struct [(3,0),(3,1),(4,2),(3,3),(53,4),(53,5)])⟩ := rfl
@[go_sem] theorem look62 : look tab 62 = some ⟨1,24,[(.slice none 0 0)],(.slice 39)⟩ := rfl
@[go_sem] theorem look63 : look tab 63 = some ⟨1,24,[(.slice none 0 0)],(.slice 187)⟩ := rfl
@[go_sem] theorem look64 : look tab 64 = some ⟨2,48,[(.slice none 0 0),(.slice none 0 0)],(.struct [(62,0),(63,1)])⟩ := rfl
@[go_sem] theorem look65 : look tab 65 = some ⟨2,48,[(.slice none 0 0),(.slice none 0 0)],(.struct [(62,0),(63,1)])⟩ := rfl
@[go_sem] theorem look67 : look tab 67 = some ⟨1,24,[(.slice none 0 0)],(.slice 3)⟩ := rfl
@[go_sem] theorem look70 : look tab 70 = some ⟨1,24,[(.slice none 0 0)],(.slice 46)⟩ := rfl
@[go_sem] theorem look71 : look tab 71 = some ⟨1,24,[(.slice none 0 0)],(.slice 189)⟩ := rfl
@[go_sem] theorem look72 : look tab 72 = some ⟨2,48,[(.slice none 0 0),(.slice none 0 0)],(.struct [(70,0),(71,1)])⟩ := rfl
@[go_sem] theorem look73 : look tab 73 = some ⟨2,48,[(.slice none 0 0),(.slice none 0 0)],(.struct [(70,0),(71,1)])⟩ := rfl
@[go_sem] theorem look80 : look tab 80 = some ⟨1,24,[(.slice none 0 0)],(.slice 150)⟩ := rfl
@[go_sem] theorem look86 : look tab 86 = some ⟨1,24,[(.slice none 0 0)],(.slice 5)⟩ := rfl
@[go_sem] theorem look91 : look tab 91 = some ⟨1,24,[(.slice none 0 0)],(.slice 31)⟩ := rfl
@[go_sem] theorem look92 : look tab 92 = some ⟨1,24,[(.slice none 0 0)],(.struct [(26,0)])⟩ := rfl
@[go_sem] theorem look93 : look tab 93 = some ⟨1,24,[(.slice none 0 0)],(.struct [(26,0)])⟩ := rfl
@[go_sem] theorem look108 : look tab 108 = some ⟨4,40,[(.int .i64 0),(.int .i64 0),(.int .i64 0),(.string .empty)],(.struct [(3,0),(3,1),(3,2),(9,3)])⟩ := rfl
@[go_sem] theorem look109 : look tab 109 = some ⟨4,40,[(.int .i64 0),(.int .i64 0),(.int .i64 0),(.string .empty)],(.struct [(3,0),(3,1),(3,2),(9,3)])⟩ := rfl
@[go_sem] theorem look114 : look tab 114 = some ⟨2,32,[(.int .i64 0),(.slice none 0 0)],(.struct [(3,0),(24,1)])⟩ := rfl
@[go_sem] theorem look115 : look tab 115 = some ⟨2,32,[(.int .i64 0),(.slice none 0 0)],(.struct [(3,0),(24,1)])⟩ := rfl
@[go_sem] theorem look150 : look tab 150 = some ⟨4,40,[(.int .i64 0),(.int .i64 0),(.int .i64 0),(.string .empty)],(.struct [(3,0),(3,1),(3,2),(9,3)])⟩ := rfl
@[go_sem] theorem look155 : look tab 155 = some ⟨1,8,[(.pointer none)],.flat⟩ := rfl
@[go_sem] theorem look156 : look tab 156 = some ⟨1,8,[(.int .u64 0)],(.int .u64)⟩ := rfl
@[go_sem] theorem look157 : look tab 157 = some ⟨3,40,[(.slice none 0 0),(.int .i64 0),(.int .u64 0)],(.struct [(86,0),(3,1),(156,2)])⟩ := rfl
@[go_sem] theorem look158 : look tab 158 = some ⟨3,40,[(.slice none 0 0),(.int .i64 0),(.int .u64 0)],(.struct [(86,0),(3,1),(156,2)])⟩ := rfl
@[go_sem] theorem look172 : look tab 172 = some ⟨1,24,[(.slice none 0 0)],(.struct [(80,0)])⟩ := rfl
@[go_sem] theorem look173 : look tab 173 = some ⟨1,24,[(.slice none 0 0)],(.struct [(80,0)])⟩ := rfl
@[go_sem] theorem look183 : look tab 183 = some ⟨1,8,[(.pointer none)],.flat⟩ := rfl
@[go_sem] theorem look186 : look tab 186 = some ⟨3,40,[(.int .i64 0),(.int .i64 0),(.slice none 0 0)],(.struct [(3,0),(115,1)])⟩ := rfl
@[go_sem] theorem look187 : look tab 187 = some ⟨3,40,[(.int .i64 0),(.int .i64 0),(.slice none 0 0)],(.struct [(3,0),(115,1)])⟩ := rfl
@[go_sem] theorem look188 : look tab 188 = some ⟨3,40,[(.int .i64 0),(.int .i64 0),(.slice none 0 0)],(.struct [(3,0),(42,1)])⟩ := rfl
@[go_sem] theorem look189 : look tab 189 = some ⟨3,40,[(.int .i64 0),(.int .i64 0),(.slice none 0 0)],(.struct [(3,0),(42,1)])⟩ := rfl
@[go_sem] theorem look214 : look tab 214 = some ⟨1,8,[(.int .u64 0)],(.int .u64)⟩ := rfl
@[go_sem] theorem look225 : look tab 225 = some ⟨1,8,[(.int .i64 0)],(.int .i64)⟩ := rfl
@[go_sem] theorem look232 : look tab 232 = some ⟨1,4,[(.int .u32 0)],(.int .u32)⟩ := rfl
@[go_sem] theorem look242 : look tab 242 = some ⟨1,8,[(.pointer none)],.flat⟩ := rfl
@[go_sem] theorem look243 : look tab 243 = some ⟨1,8,[(.int .u64 0)],(.int .u64)⟩ := rfl
@[go_sem] theorem look247 : look tab 247 = some ⟨1,8,[(.pointer none)],.flat⟩ := rfl
@[go_sem] theorem look256 : look tab 256 = some ⟨1,8,[(.pointer none)],.flat⟩ := rfl
@[go_sem] theorem look266 : look tab 266 = some ⟨1,8,[(.pointer none)],.flat⟩ := rfl
@[go_sem] theorem look274 : look tab 274 = some ⟨2,2,[(.int .u8 0),(.int .u8 0)],(.struct [(5,0),(5,1)])⟩ := rfl
@[go_sem] theorem look275 : look tab 275 = some ⟨2,2,[(.int .u8 0),(.int .u8 0)],(.struct [(5,0),(5,1)])⟩ := rfl
@[go_sem] theorem look279 : look tab 279 = some ⟨4,40,[(.pointer none),(.pointer none),(.pointer none),(.string .empty)],(.struct [(17,0),(17,1),(17,2),(9,3)])⟩ := rfl
@[go_sem] theorem look280 : look tab 280 = some ⟨4,40,[(.pointer none),(.pointer none),(.pointer none),(.string .empty)],(.struct [(17,0),(17,1),(17,2),(9,3)])⟩ := rfl
@[go_sem] theorem look282 : look tab 282 = some ⟨0,0,[],(.struct [(281,0)])⟩ := rfl
@[go_sem] theorem look283 : look tab 283 = some ⟨0,0,[],(.struct [(281,0)])⟩ := rfl
@[go_sem] theorem look284 : look tab 284 = some ⟨1,1,[(.int .u8 0)],(.int .u8)⟩ := rfl
@[go_sem] theorem look285 : look tab 285 = some ⟨1,1,[(.int .u8 0)],(.int .u8)⟩ := rfl
@[go_sem] theorem look287 : look tab 287 = some ⟨1,8,[(.pointer none)],.flat⟩ := rfl
@[go_sem] theorem look288 : look tab 288 = some ⟨1,4,[(.int .i32 0)],(.int .i32)⟩ := rfl
@[go_sem] theorem look289 : look tab 289 = some ⟨1,4,[(.int .i32 0)],(.int .i32)⟩ := rfl
theorem mixed : Tryz.prog.follows .mixedOrders = true := by kernel_rfl
end Go.TL.YtjkeoippmlmfbaaGreatDoor
