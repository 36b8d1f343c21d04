import Derived.Test.YtjkeoippmlmfbaaGreatDoorTlAuto
set_option linter.unusedSimpArgs false
set_option linter.unusedVariables false
namespace Go.TL
section
variable {E : Env} {s : St} {st : List Fm}
theorem Gh_pack {id : Nat} {ops : Array Oper} {dr : Bool} (k : Nat) (h : Gh E false id ops dr (s.pack k) st) (hp : packP s.H k := by ((try simp (disch := first | assumption | (simp only [List.length_set]; assumption)) only [go_sem,Nat.reduceAdd,Nat.reduceMul,Nat.reduceSub,Nat.reduceEqDiff,↓reduceIte,Nat.reduceLT,reduceCtorEq,Nat.reduceLeDiff,Int.reduceToNat,Int.reduceEq,Int.reduceLE,Int.reduceLT,Nat.reduceBEq]); (repeat' first | done | rfl | omega | assumption | refine And.intro ?_ ?_ | (simp; done) | (simp; omega)))) : Gh E true id ops dr s st := Gh_weak _ (weak_pack k hp) h
end
end Go.TL
