import Derived.Test.YtjhcfmcdllfmpaaDoorProg
import Derived.Ground.NamesProg
import Derived.Shelf.Strings.SlTrimAscii
set_option linter.unusedSimpArgs false
set_option linter.unusedVariables false
namespace Go.Proofs
open Go.Shelf
def Tryd.lays160_ren : Go.Shelf.Ren := ⟨fun | 160 => 129 | 232 => 152 | 231 => 151 | 227 => 153 | 234 => 155 | 233 => 154 | 236 => 157 | 235 => 156 | 228 => 172 | 271 => 175 | 151 => 174 | 197 => 173 | 120 => 184 | 152 => 183 | 260 => 182 | 137 => 187 | 119 => 188 | 224 => 189 | 225 => 190 | 217 => 191 | 266 => 192 | n => n, fun | 9 => 9 | 4 => 4 | 3 => 3 | 5 => 5 | 117 => 164 | 116 => 163 | 0 => 0 | 124 => 167 | 21 => 21 | 105 => 180 | 46 => 151 | 119 => 193 | 139 => 196 | 138 => 195 | n => n, fun | 3 => 0 | 4 => 1 | n => n⟩
theorem Tryd.lays160 : Go.Proofs.Lays.n160 Tryd.prog Tryd.lays160_ren := {
  mixed := by kernel_rfl
  f119 := Tryd.func188.trans (congrArg some (by kernel_rfl))
  f120 := Tryd.func184.trans (congrArg some (by kernel_rfl))
  f137 := Tryd.func187.trans (congrArg some (by kernel_rfl))
  f151 := Tryd.func174.trans (congrArg some (by kernel_rfl))
  f152 := Tryd.func183.trans (congrArg some (by kernel_rfl))
  f160 := Tryd.func129.trans (congrArg some (by kernel_rfl))
  f197 := Tryd.func173.trans (congrArg some (by kernel_rfl))
  f217 := Tryd.func191.trans (congrArg some (by kernel_rfl))
  f224 := Tryd.func189.trans (congrArg some (by kernel_rfl))
  f225 := Tryd.func190.trans (congrArg some (by kernel_rfl))
  f227 := Tryd.func153.trans (congrArg some (by kernel_rfl))
  f228 := Tryd.func172.trans (congrArg some (by kernel_rfl))
  f231 := Tryd.func151.trans (congrArg some (by kernel_rfl))
  f232 := Tryd.func152.trans (congrArg some (by kernel_rfl))
  f233 := Tryd.func154.trans (congrArg some (by kernel_rfl))
  f234 := Tryd.func155.trans (congrArg some (by kernel_rfl))
  f235 := Tryd.func156.trans (congrArg some (by kernel_rfl))
  f236 := Tryd.func157.trans (congrArg some (by kernel_rfl))
  f260 := Tryd.func182.trans (congrArg some (by kernel_rfl))
  f266 := Tryd.func192.trans (congrArg some (by kernel_rfl))
  f271 := Tryd.func175.trans (congrArg some (by kernel_rfl))
  t0 := Tryd.underlying0
  a0 := Tryd.isAgg0
  z0 := Tryd.sizeOf0
  v0 := Tryd.zeroValue0
  t3 := Tryd.underlying3
  a3 := Tryd.isAgg3
  z3 := Tryd.sizeOf3
  v3 := Tryd.zeroValue3
  t4 := Tryd.underlying4
  a4 := Tryd.isAgg4
  z4 := Tryd.sizeOf4
  v4 := Tryd.zeroValue4
  t5 := Tryd.underlying5
  a5 := Tryd.isAgg5
  z5 := Tryd.sizeOf5
  v5 := Tryd.zeroValue5
  t9 := Tryd.underlying9
  a9 := Tryd.isAgg9
  z9 := Tryd.sizeOf9
  v9 := Tryd.zeroValue9
  t21 := Tryd.underlying21
  a21 := Tryd.isAgg21
  z21 := Tryd.sizeOf21
  v21 := Tryd.zeroValue21
  t46 := Tryd.underlying151
  a46 := Tryd.isAgg151
  z46 := Tryd.sizeOf151
  v46 := Tryd.zeroValue151
  t105 := Tryd.underlying180
  a105 := Tryd.isAgg180
  z105 := Tryd.sizeOf180
  v105 := Tryd.zeroValue180
  t116 := Tryd.underlying163
  a116 := Tryd.isAgg163
  z116 := Tryd.sizeOf163
  t117 := Tryd.underlying164
  a117 := Tryd.isAgg164
  z117 := Tryd.sizeOf164
  v117 := Tryd.zeroValue164
  t119 := Tryd.underlying193
  a119 := Tryd.isAgg193
  z119 := Tryd.sizeOf193
  t124 := Tryd.underlying167
  a124 := Tryd.isAgg167
  z124 := Tryd.sizeOf167
  v124 := Tryd.zeroValue167
  t138 := Tryd.underlying195
  a138 := Tryd.isAgg195
  z138 := Tryd.sizeOf195
  v138 := Tryd.zeroValue195
  t139 := Tryd.underlying196
  a139 := Tryd.isAgg196
  z139 := Tryd.sizeOf196
  v139 := Tryd.zeroValue196
  g3 := by kernel_rfl
  g4 := by kernel_rfl }
end Go.Proofs
