import Derived.Test.YteonagfnhdlfcaaGreatDoorProg
import Derived.Ground.SlsfProg
import Derived.Shelf.SlSortCmp.NoneTotal
import Derived.Test.YteonagfnhdlfcaaGreatDoorTlSortD
import Derived.Test.YteonagfnhdlfcaaGreatDoorG29PlR5C
import Derived.Test.YteonagfnhdlfcaaGreatDoorG30EnR1
set_option linter.unusedSimpArgs false
set_option linter.unusedVariables false
noncomputable section
namespace Go.Proofs
open Go.Shelf
def Tryz.sortB_ren:Go.Shelf.Ren:=⟨λ | 6=>219 | 15=>197 | 14=>253 | 28=>240 | 29=>241 | 20=>273 | 21=>274 | 22=>275 | 23=>276 | 24=>277 | 25=>278 | 26=>279 | 27=>280 | 46=>290 | 47=>262 | 48=>263 | 49=>291 | 50=>292 | 57=>301 | n=>n,λ | 22=>23 | 24=>38 | 25=>225 | 3=>3 | 39=>205 | 0=>0 | 53=>257 | 55=>99 | 4=>4 | 46=>250 | 45=>249 | 50=>77 | 5=>5 | 9=>9 | 66=>273 | 70=>277 | 76=>296 | 77=>208 | n=>n,λ | n=>n⟩
theorem Tryz.sortB:Go.Proofs.SlLaysF0.n6 Tryz.prog Tryz.sortB_ren:={
 mixed:=by kernel_rfl
 f6:=⟨Tryz.f219.name,by decide,Tryz.func219.trans (congrArg some (by kernel_rfl))⟩
 f14:=⟨Tryz.f253.name,by decide,Tryz.func253.trans (congrArg some (by kernel_rfl))⟩
 f15:=Tryz.func197.trans (congrArg some (by kernel_rfl))
 f20:=⟨Tryz.f273.name,by decide,Tryz.func273.trans (congrArg some (by kernel_rfl))⟩
 f21:=⟨Tryz.f274.name,by decide,Tryz.func274.trans (congrArg some (by kernel_rfl))⟩
 f22:=⟨Tryz.f275.name,by decide,Tryz.func275.trans (congrArg some (by kernel_rfl))⟩
 f23:=⟨Tryz.f276.name,by decide,Tryz.func276.trans (congrArg some (by kernel_rfl))⟩
 f24:=⟨Tryz.f277.name,by decide,Tryz.func277.trans (congrArg some (by kernel_rfl))⟩
 f25:=⟨Tryz.f278.name,by decide,Tryz.func278.trans (congrArg some (by kernel_rfl))⟩
 f26:=⟨Tryz.f279.name,by decide,Tryz.func279.trans (congrArg some (by kernel_rfl))⟩
 f27:=⟨Tryz.f280.name,by decide,Tryz.func280.trans (congrArg some (by kernel_rfl))⟩
 f28:=Tryz.func240.trans (congrArg some (by kernel_rfl))
 f29:=Tryz.func241.trans (congrArg some (by kernel_rfl))
 f46:=⟨Tryz.f290.name,by decide,Tryz.func290.trans (congrArg some (by kernel_rfl))⟩
 f47:=Tryz.func262.trans (congrArg some (by kernel_rfl))
 f48:=Tryz.func263.trans (congrArg some (by kernel_rfl))
 f49:=⟨Tryz.f291.name,by decide,Tryz.func291.trans (congrArg some (by kernel_rfl))⟩
 f50:=⟨Tryz.f292.name,by decide,Tryz.func292.trans (congrArg some (by kernel_rfl))⟩
 f57:=⟨Tryz.f301.name,by decide,Tryz.func301.trans (congrArg some (by kernel_rfl))⟩
 t0:=Tryz.underlying0
 a0:=Tryz.isAgg0
 z0:=Tryz.sizeOf0
 v0:=Tryz.zeroValue0
 t3:=Tryz.underlying3
 a3:=Tryz.isAgg3
 z3:=Tryz.sizeOf3
 v3:=Tryz.zeroValue3
 t4:=Tryz.underlying4
 a4:=Tryz.isAgg4
 z4:=Tryz.sizeOf4
 v4:=Tryz.zeroValue4
 t5:=Tryz.underlying5
 a5:=Tryz.isAgg5
 z5:=Tryz.sizeOf5
 v5:=Tryz.zeroValue5
 t9:=Tryz.underlying9
 a9:=Tryz.isAgg9
 z9:=Tryz.sizeOf9
 v9:=Tryz.zeroValue9
 t22:=Tryz.underlying23
 a22:=Tryz.isAgg23
 z22:=Tryz.sizeOf23
 v22:=Tryz.zeroValue23
 t25:=Tryz.underlying225
 a25:=Tryz.isAgg225
 z25:=Tryz.sizeOf225
 v25:=Tryz.zeroValue225
 t39:=Tryz.underlying205
 a39:=Tryz.isAgg205
 z39:=Tryz.sizeOf205
 v39:=Tryz.zeroValue205
 t45:=Tryz.underlying249
 a45:=Tryz.isAgg249
 z45:=Tryz.sizeOf249
 v45:=Tryz.zeroValue249
 t46:=Tryz.underlying250
 a46:=Tryz.isAgg250
 z46:=Tryz.sizeOf250
 v46:=Tryz.zeroValue250
 t50:=Tryz.underlying77
 a50:=Tryz.isAgg77
 z50:=Tryz.sizeOf77
 v50:=Tryz.zeroValue77
 t53:=Tryz.underlying257
 a53:=Tryz.isAgg257
 z53:=Tryz.sizeOf257
 v53:=Tryz.zeroValue257
 t55:=Tryz.underlying99
 a55:=Tryz.isAgg99
 z55:=Tryz.sizeOf99
 v55:=Tryz.zeroValue99
 t66:=Tryz.underlying273
 a66:=Tryz.isAgg273
 z66:=Tryz.sizeOf273
 v66:=Tryz.zeroValue273
 t70:=Tryz.underlying277
 a70:=Tryz.isAgg277
 z70:=Tryz.sizeOf277
 v70:=Tryz.zeroValue277
 t76:=Tryz.underlying296
 a76:=Tryz.isAgg296
 z76:=Tryz.sizeOf296
 v76:=Tryz.zeroValue296
 t77:=Tryz.underlying208
 a77:=Tryz.isAgg208
 z77:=Tryz.sizeOf208
 v77:=Tryz.zeroValue208 }
end Go.Proofs
namespace Go.Proofs
theorem Tryz.sortBAgg:∀ w,(Go.isAgg (Tryz.sortB_ren.t 24)).run Tryz.prog w=.ok true w:=Tryz.isAgg38
theorem Tryz.sortBSize:∀ w,(Go.sizeOf (Tryz.sortB_ren.t 24)).run Tryz.prog w=.ok 1 w:=Tryz.sizeOf38
end Go.Proofs
namespace Go.TL
open Go Go.Sort Go.Proofs
theorem zvi:SWO (ltOf λ a b:zkd=>(zk7 a.fEv b.fEv).1) where
 irrefl a:=branch_swo.irrefl a.fEv
 trans a b c:=branch_swo.trans a.fEv b.fEv c.fEv
 ntrans a b c:=branch_swo.ntrans a.fEv b.fEv c.fEv
theorem zzE {x y:zkd} (hx:x.fEv.length≤1000) (hy:y.fEv.length≤1000):zgm x y=some (zk7 x.fEv y.fEv).1:=by
 unfold zgm
 rw [zfu _ _ (by omega) (by omega)]
 rfl
theorem zzF (a b:zkd):ltOf (λ a b:zkd=>(zk7 a.fEv b.fEv).1) a b=brL a b:=zom a.fEv b.fEv
theorem zx3 {l r:List zkd} (ha:zuZ brL l=true) (hp:r.Perm l) (hs:r.Pairwise λ a b=>ltOf (λ a b:zkd=>(zk7 a.fEv b.fEv).1) b a=false):r=zr3 brL l:=by
 refine zt2 zrv zmS (hp.trans (zoz brL l).symm) ?_ (zqB zmS ha)
 have hap:r.Pairwise λ x y=>brL x y=true∨brL y x=true:=(hp.pairwise_iff λ h=>h.symm).2 (zo1.1 ha)
 refine (hap.and hs).imp λ {a b} ⟨h1,h2⟩=>?_
 rw [zzF] at h2
 exact h1.resolve_right (by rw [h2];exact Bool.false_ne_true)
theorem zwk {a b:zka} (h:zko a=zko b):a=b:=by
 cases a;cases b
 simp [zko,eI,eS] at h
 simp [h]
theorem zvj {α γ:Type} {f:α→γ} (hf:∀ a b,f a=f b→a=b):∀ {l r:List α},l.map f=r.map f→l=r
 | [],[],_=>rfl
 | [],_ :: _,h=>by simp at h
 | _ :: _,[],h=>by simp at h
 | a :: l,b :: r,h=>by
  simp only [List.map_cons,List.cons.injEq] at h
  rw [hf a b h.1,zvj hf h.2]
theorem zAX {x y:zkd} (e:(Leaf.sl (x.fEv.map zko))=Leaf.sl (y.fEv.map zko)):x=y:=by
 have h:=zvj (λ a b=>zwk) (Leaf.sl.inj e)
 cases x;cases y
 simp only at h
 rw [h]
end Go.TL
