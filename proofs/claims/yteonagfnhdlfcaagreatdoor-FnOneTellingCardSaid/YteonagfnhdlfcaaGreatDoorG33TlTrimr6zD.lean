import Derived.Test.YteonagfnhdlfcaaGreatDoorProg
import Derived.Ground.NamesProg
import Derived.Shelf.Strings.SlTrimAscii
import Derived.Ground.Names2Prog
import Derived.Shelf.Spec.SlicesInsert
import Derived.Shelf.Sort.Plain
import Derived.Shelf.Slices.In.SortNone
import Derived.Shelf.Slices.CompactS
set_option linter.unusedSimpArgs false
set_option linter.unusedVariables false
noncomputable section
namespace Go.Proofs
open Go.Shelf
def Tryz.lays160_ren:Go.Shelf.Ren:=⟨λ | 160=>207 | 232=>247 | 231=>246 | 227=>248 | 234=>250 | 233=>249 | 236=>252 | 235=>251 | 228=>269 | 271=>272 | 151=>271 | 197=>270 | 120=>289 | 152=>288 | 260=>287 | 137=>297 | 119=>298 | 224=>299 | 225=>300 | 217=>303 | 266=>305 | n=>n,λ | 9=>9 | 4=>4 | 3=>3 | 5=>5 | 117=>264 | 116=>263 | 0=>0 | 124=>267 | 21=>21 | 105=>284 | 46=>205 | 119=>304 | 139=>307 | 138=>306 | n=>n,λ | 3=>0 | 4=>1 | n=>n⟩
theorem Tryz.lays160:Go.Proofs.Lays.n160 Tryz.prog Tryz.lays160_ren:={
 mixed:=by kernel_rfl
 f119:=Tryz.func298.trans (congrArg some (by kernel_rfl))
 f120:=Tryz.func289.trans (congrArg some (by kernel_rfl))
 f137:=Tryz.func297.trans (congrArg some (by kernel_rfl))
 f151:=Tryz.func271.trans (congrArg some (by kernel_rfl))
 f152:=Tryz.func288.trans (congrArg some (by kernel_rfl))
 f160:=Tryz.func207.trans (congrArg some (by kernel_rfl))
 f197:=Tryz.func270.trans (congrArg some (by kernel_rfl))
 f217:=Tryz.func303.trans (congrArg some (by kernel_rfl))
 f224:=Tryz.func299.trans (congrArg some (by kernel_rfl))
 f225:=Tryz.func300.trans (congrArg some (by kernel_rfl))
 f227:=Tryz.func248.trans (congrArg some (by kernel_rfl))
 f228:=Tryz.func269.trans (congrArg some (by kernel_rfl))
 f231:=Tryz.func246.trans (congrArg some (by kernel_rfl))
 f232:=Tryz.func247.trans (congrArg some (by kernel_rfl))
 f233:=Tryz.func249.trans (congrArg some (by kernel_rfl))
 f234:=Tryz.func250.trans (congrArg some (by kernel_rfl))
 f235:=Tryz.func251.trans (congrArg some (by kernel_rfl))
 f236:=Tryz.func252.trans (congrArg some (by kernel_rfl))
 f260:=Tryz.func287.trans (congrArg some (by kernel_rfl))
 f266:=Tryz.func305.trans (congrArg some (by kernel_rfl))
 f271:=Tryz.func272.trans (congrArg some (by kernel_rfl))
 t0:=Tryz.underlying0
 a0:=Tryz.isAgg0
 z0:=Tryz.sizeOf0
 v0:=Tryz.zeroValue0
 t3:=Tryz.underlying3
 a3:=Tryz.isAgg3
 z3:=Tryz.sizeOf3
 v3:=Tryz.zeroValue3
 t4:=Tryz.underlying4
 a4:=Tryz.isAgg4
 z4:=Tryz.sizeOf4
 v4:=Tryz.zeroValue4
 t5:=Tryz.underlying5
 a5:=Tryz.isAgg5
 z5:=Tryz.sizeOf5
 v5:=Tryz.zeroValue5
 t9:=Tryz.underlying9
 a9:=Tryz.isAgg9
 z9:=Tryz.sizeOf9
 v9:=Tryz.zeroValue9
 t21:=Tryz.underlying21
 a21:=Tryz.isAgg21
 z21:=Tryz.sizeOf21
 v21:=Tryz.zeroValue21
 t46:=Tryz.underlying205
 a46:=Tryz.isAgg205
 z46:=Tryz.sizeOf205
 v46:=Tryz.zeroValue205
 t105:=Tryz.underlying284
 a105:=Tryz.isAgg284
 z105:=Tryz.sizeOf284
 v105:=Tryz.zeroValue284
 t116:=Tryz.underlying263
 a116:=Tryz.isAgg263
 z116:=Tryz.sizeOf263
 t117:=Tryz.underlying264
 a117:=Tryz.isAgg264
 z117:=Tryz.sizeOf264
 v117:=Tryz.zeroValue264
 t119:=Tryz.underlying304
 a119:=Tryz.isAgg304
 z119:=Tryz.sizeOf304
 t124:=Tryz.underlying267
 a124:=Tryz.isAgg267
 z124:=Tryz.sizeOf267
 v124:=Tryz.zeroValue267
 t138:=Tryz.underlying306
 a138:=Tryz.isAgg306
 z138:=Tryz.sizeOf306
 v138:=Tryz.zeroValue306
 t139:=Tryz.underlying307
 a139:=Tryz.isAgg307
 z139:=Tryz.sizeOf307
 v139:=Tryz.zeroValue307
 g3:=by kernel_rfl
 g4:=by kernel_rfl }
end Go.Proofs
namespace Go.Proofs
open Go.Shelf
def Tryz.lays22_ren:Go.Shelf.Ren:=⟨λ | 22=>285 | 29=>295 | 30=>296 | 36=>302 | 17=>304 | n=>n,λ | 24=>44 | 9=>9 | 3=>3 | 4=>4 | 0=>0 | n=>n,λ | n=>n⟩
theorem Tryz.lays22:Go.Proofs.Lays2.n22 Tryz.prog Tryz.lays22_ren:={
 mixed:=by kernel_rfl
 f17:=Tryz.func304.trans (congrArg some (by kernel_rfl))
 f22:=Tryz.func285.trans (congrArg some (by kernel_rfl))
 f29:=Tryz.func295.trans (congrArg some (by kernel_rfl))
 f30:=Tryz.func296.trans (congrArg some (by kernel_rfl))
 f36:=Tryz.func302.trans (congrArg some (by kernel_rfl))
 t0:=Tryz.underlying0
 a0:=Tryz.isAgg0
 z0:=Tryz.sizeOf0
 v0:=Tryz.zeroValue0
 t3:=Tryz.underlying3
 a3:=Tryz.isAgg3
 z3:=Tryz.sizeOf3
 v3:=Tryz.zeroValue3
 t4:=Tryz.underlying4
 a4:=Tryz.isAgg4
 z4:=Tryz.sizeOf4
 v4:=Tryz.zeroValue4
 t9:=Tryz.underlying9
 a9:=Tryz.isAgg9
 z9:=Tryz.sizeOf9
 v9:=Tryz.zeroValue9
 t24:=Tryz.underlying44
 a24:=Tryz.isAgg44
 z24:=Tryz.sizeOf44
 v24:=Tryz.zeroValue44
 i9:=by kernel_rfl }
end Go.Proofs
namespace Go.Proofs
open Go.Shelf
def Tryz.lays190_ren:Go.Shelf.Ren:=⟨λ | 190=>143 | 125=>197 | 258=>196 | 128=>240 | 129=>241 | 302=>231 | 303=>232 | 304=>233 | 305=>234 | 306=>235 | 307=>236 | 308=>237 | 309=>238 | 310=>239 | 333=>261 | 329=>262 | 330=>263 | 334=>264 | 335=>265 | 336=>254 | 344=>286 | n=>n,λ | 31=>44 | 9=>9 | 3=>3 | 46=>205 | 0=>0 | 51=>257 | 53=>99 | 4=>4 | 183=>250 | 182=>249 | 131=>77 | 5=>5 | 218=>273 | 222=>277 | 228=>296 | 229=>208 | n=>n,λ | n=>n⟩
theorem Tryz.lays190:Go.Proofs.Lays.n190 Tryz.prog Tryz.lays190_ren:={
 mixed:=by kernel_rfl
 f125:=Tryz.func197.trans (congrArg some (by kernel_rfl))
 f128:=Tryz.func240.trans (congrArg some (by kernel_rfl))
 f129:=Tryz.func241.trans (congrArg some (by kernel_rfl))
 f190:=Tryz.func143.trans (congrArg some (by kernel_rfl))
 f258:=Tryz.func196.trans (congrArg some (by kernel_rfl))
 f302:=Tryz.func231.trans (congrArg some (by kernel_rfl))
 f303:=Tryz.func232.trans (congrArg some (by kernel_rfl))
 f304:=Tryz.func233.trans (congrArg some (by kernel_rfl))
 f305:=Tryz.func234.trans (congrArg some (by kernel_rfl))
 f306:=Tryz.func235.trans (congrArg some (by kernel_rfl))
 f307:=Tryz.func236.trans (congrArg some (by kernel_rfl))
 f308:=Tryz.func237.trans (congrArg some (by kernel_rfl))
 f309:=Tryz.func238.trans (congrArg some (by kernel_rfl))
 f310:=Tryz.func239.trans (congrArg some (by kernel_rfl))
 f329:=Tryz.func262.trans (congrArg some (by kernel_rfl))
 f330:=Tryz.func263.trans (congrArg some (by kernel_rfl))
 f333:=Tryz.func261.trans (congrArg some (by kernel_rfl))
 f334:=Tryz.func264.trans (congrArg some (by kernel_rfl))
 f335:=Tryz.func265.trans (congrArg some (by kernel_rfl))
 f336:=Tryz.func254.trans (congrArg some (by kernel_rfl))
 f344:=Tryz.func286.trans (congrArg some (by kernel_rfl))
 t0:=Tryz.underlying0
 a0:=Tryz.isAgg0
 z0:=Tryz.sizeOf0
 v0:=Tryz.zeroValue0
 t3:=Tryz.underlying3
 a3:=Tryz.isAgg3
 z3:=Tryz.sizeOf3
 v3:=Tryz.zeroValue3
 t4:=Tryz.underlying4
 a4:=Tryz.isAgg4
 z4:=Tryz.sizeOf4
 v4:=Tryz.zeroValue4
 t5:=Tryz.underlying5
 a5:=Tryz.isAgg5
 z5:=Tryz.sizeOf5
 v5:=Tryz.zeroValue5
 t9:=Tryz.underlying9
 a9:=Tryz.isAgg9
 z9:=Tryz.sizeOf9
 v9:=Tryz.zeroValue9
 t31:=Tryz.underlying44
 a31:=Tryz.isAgg44
 z31:=Tryz.sizeOf44
 v31:=Tryz.zeroValue44
 t46:=Tryz.underlying205
 a46:=Tryz.isAgg205
 z46:=Tryz.sizeOf205
 v46:=Tryz.zeroValue205
 t51:=Tryz.underlying257
 a51:=Tryz.isAgg257
 z51:=Tryz.sizeOf257
 v51:=Tryz.zeroValue257
 t53:=Tryz.underlying99
 a53:=Tryz.isAgg99
 z53:=Tryz.sizeOf99
 v53:=Tryz.zeroValue99
 t131:=Tryz.underlying77
 a131:=Tryz.isAgg77
 z131:=Tryz.sizeOf77
 v131:=Tryz.zeroValue77
 t182:=Tryz.underlying249
 a182:=Tryz.isAgg249
 z182:=Tryz.sizeOf249
 v182:=Tryz.zeroValue249
 t183:=Tryz.underlying250
 a183:=Tryz.isAgg250
 z183:=Tryz.sizeOf250
 v183:=Tryz.zeroValue250
 t218:=Tryz.underlying273
 a218:=Tryz.isAgg273
 z218:=Tryz.sizeOf273
 v218:=Tryz.zeroValue273
 t222:=Tryz.underlying277
 a222:=Tryz.isAgg277
 z222:=Tryz.sizeOf277
 v222:=Tryz.zeroValue277
 t228:=Tryz.underlying296
 a228:=Tryz.isAgg296
 z228:=Tryz.sizeOf296
 v228:=Tryz.zeroValue296
 t229:=Tryz.underlying208
 a229:=Tryz.isAgg208
 z229:=Tryz.sizeOf208
 v229:=Tryz.zeroValue208 }
def Tryz.lays194_ren:Go.Shelf.Ren:=⟨λ | 194=>144 | n=>n,λ | 31=>44 | 9=>9 | 3=>3 | 4=>4 | 0=>0 | n=>n,λ | n=>n⟩
theorem Tryz.lays194:Go.Proofs.Lays.n194 Tryz.prog Tryz.lays194_ren:={
 mixed:=by kernel_rfl
 f194:=Tryz.func144.trans (congrArg some (by kernel_rfl))
 t0:=Tryz.underlying0
 a0:=Tryz.isAgg0
 z0:=Tryz.sizeOf0
 v0:=Tryz.zeroValue0
 t3:=Tryz.underlying3
 a3:=Tryz.isAgg3
 z3:=Tryz.sizeOf3
 v3:=Tryz.zeroValue3
 t4:=Tryz.underlying4
 a4:=Tryz.isAgg4
 z4:=Tryz.sizeOf4
 v4:=Tryz.zeroValue4
 t9:=Tryz.underlying9
 a9:=Tryz.isAgg9
 z9:=Tryz.sizeOf9
 v9:=Tryz.zeroValue9
 t31:=Tryz.underlying44
 a31:=Tryz.isAgg44
 z31:=Tryz.sizeOf44
 v31:=Tryz.zeroValue44 }
end Go.Proofs
