import Derived.Test.YtjhcfmcdllfmpaaDoorProg
import Derived.Ground.SlsfProg
import Derived.Shelf.SlSortCmp.NoneTotal
set_option linter.unusedSimpArgs false
set_option linter.unusedVariables false
namespace Go.Proofs
open Go.Shelf
def Tryd.sortD_ren : Go.Shelf.Ren := ⟨fun | 6 => 98 | 15 => 137 | 14 => 136 | 28 => 167 | 29 => 168 | 20 => 159 | 21 => 160 | 22 => 161 | 23 => 162 | 24 => 163 | 25 => 164 | 26 => 165 | 27 => 166 | 46 => 176 | 47 => 177 | 48 => 178 | 49 => 179 | 50 => 180 | 57 => 185 | n => n, fun | 22 => 61 | 24 => 114 | 25 => 119 | 3 => 3 | 39 => 151 | 0 => 0 | 53 => 176 | 55 => 96 | 4 => 4 | 46 => 170 | 45 => 169 | 50 => 24 | 5 => 5 | 9 => 9 | 66 => 183 | 70 => 187 | 76 => 190 | 77 => 89 | n => n, fun | n => n⟩
theorem Tryd.sortD : Go.Proofs.SlLaysF0.n6 Tryd.prog Tryd.sortD_ren := {
  mixed := by kernel_rfl
  f6 := ⟨Tryd.f98.name, by decide, Tryd.func98.trans (congrArg some (by kernel_rfl))⟩
  f14 := ⟨Tryd.f136.name, by decide, Tryd.func136.trans (congrArg some (by kernel_rfl))⟩
  f15 := Tryd.func137.trans (congrArg some (by kernel_rfl))
  f20 := ⟨Tryd.f159.name, by decide, Tryd.func159.trans (congrArg some (by kernel_rfl))⟩
  f21 := ⟨Tryd.f160.name, by decide, Tryd.func160.trans (congrArg some (by kernel_rfl))⟩
  f22 := ⟨Tryd.f161.name, by decide, Tryd.func161.trans (congrArg some (by kernel_rfl))⟩
  f23 := ⟨Tryd.f162.name, by decide, Tryd.func162.trans (congrArg some (by kernel_rfl))⟩
  f24 := ⟨Tryd.f163.name, by decide, Tryd.func163.trans (congrArg some (by kernel_rfl))⟩
  f25 := ⟨Tryd.f164.name, by decide, Tryd.func164.trans (congrArg some (by kernel_rfl))⟩
  f26 := ⟨Tryd.f165.name, by decide, Tryd.func165.trans (congrArg some (by kernel_rfl))⟩
  f27 := ⟨Tryd.f166.name, by decide, Tryd.func166.trans (congrArg some (by kernel_rfl))⟩
  f28 := Tryd.func167.trans (congrArg some (by kernel_rfl))
  f29 := Tryd.func168.trans (congrArg some (by kernel_rfl))
  f46 := ⟨Tryd.f176.name, by decide, Tryd.func176.trans (congrArg some (by kernel_rfl))⟩
  f47 := Tryd.func177.trans (congrArg some (by kernel_rfl))
  f48 := Tryd.func178.trans (congrArg some (by kernel_rfl))
  f49 := ⟨Tryd.f179.name, by decide, Tryd.func179.trans (congrArg some (by kernel_rfl))⟩
  f50 := ⟨Tryd.f180.name, by decide, Tryd.func180.trans (congrArg some (by kernel_rfl))⟩
  f57 := ⟨Tryd.f185.name, by decide, Tryd.func185.trans (congrArg some (by kernel_rfl))⟩
  t0 := Tryd.underlying0
  a0 := Tryd.isAgg0
  z0 := Tryd.sizeOf0
  v0 := Tryd.zeroValue0
  t3 := Tryd.underlying3
  a3 := Tryd.isAgg3
  z3 := Tryd.sizeOf3
  v3 := Tryd.zeroValue3
  t4 := Tryd.underlying4
  a4 := Tryd.isAgg4
  z4 := Tryd.sizeOf4
  v4 := Tryd.zeroValue4
  t5 := Tryd.underlying5
  a5 := Tryd.isAgg5
  z5 := Tryd.sizeOf5
  v5 := Tryd.zeroValue5
  t9 := Tryd.underlying9
  a9 := Tryd.isAgg9
  z9 := Tryd.sizeOf9
  v9 := Tryd.zeroValue9
  t22 := Tryd.underlying61
  a22 := Tryd.isAgg61
  z22 := Tryd.sizeOf61
  v22 := Tryd.zeroValue61
  t25 := Tryd.underlying119
  a25 := Tryd.isAgg119
  z25 := Tryd.sizeOf119
  v25 := Tryd.zeroValue119
  t39 := Tryd.underlying151
  a39 := Tryd.isAgg151
  z39 := Tryd.sizeOf151
  v39 := Tryd.zeroValue151
  t45 := Tryd.underlying169
  a45 := Tryd.isAgg169
  z45 := Tryd.sizeOf169
  v45 := Tryd.zeroValue169
  t46 := Tryd.underlying170
  a46 := Tryd.isAgg170
  z46 := Tryd.sizeOf170
  v46 := Tryd.zeroValue170
  t50 := Tryd.underlying24
  a50 := Tryd.isAgg24
  z50 := Tryd.sizeOf24
  v50 := Tryd.zeroValue24
  t53 := Tryd.underlying176
  a53 := Tryd.isAgg176
  z53 := Tryd.sizeOf176
  v53 := Tryd.zeroValue176
  t55 := Tryd.underlying96
  a55 := Tryd.isAgg96
  z55 := Tryd.sizeOf96
  v55 := Tryd.zeroValue96
  t66 := Tryd.underlying183
  a66 := Tryd.isAgg183
  z66 := Tryd.sizeOf183
  v66 := Tryd.zeroValue183
  t70 := Tryd.underlying187
  a70 := Tryd.isAgg187
  z70 := Tryd.sizeOf187
  v70 := Tryd.zeroValue187
  t76 := Tryd.underlying190
  a76 := Tryd.isAgg190
  z76 := Tryd.sizeOf190
  v76 := Tryd.zeroValue190
  t77 := Tryd.underlying89
  a77 := Tryd.isAgg89
  z77 := Tryd.sizeOf89
  v77 := Tryd.zeroValue89 }
theorem Tryd.sortAgg : ∀ w, (isAgg (Tryd.sortD_ren.t 24)).run Tryd.prog w = .ok true w := Tryd.isAgg114
theorem Tryd.sortSize : ∀ w, (Go.sizeOf (Tryd.sortD_ren.t 24)).run Tryd.prog w = .ok 3 w := Tryd.sizeOf114
end Go.Proofs
