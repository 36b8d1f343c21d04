import Derived.Test.YteonagfnhdlfcaaGreatDoorTlStep
set_option linter.unusedSimpArgs false
set_option linter.unusedVariables false
namespace Go.TL
open Go
namespace S
@[go_sem] theorem b_slss (a b : ByteArray) : bin .lss (.string a) (.string b) = some (.bool (Op.bytesLess a.toList b.toList)) := rfl
@[go_sem] theorem p_slss (a b : ByteArray) : binP .lss (.string a) (.string b) = True := rfl
@[go_sem] theorem b_sleq (a b : ByteArray) : bin .leq (.string a) (.string b) = some (.bool (Op.bytesLess a.toList b.toList || a.toList == b.toList)) := rfl
@[go_sem] theorem p_sleq (a b : ByteArray) : binP .leq (.string a) (.string b) = True := rfl
@[go_sem] theorem b_sgtr (a b : ByteArray) : bin .gtr (.string a) (.string b) = some (.bool (!(Op.bytesLess a.toList b.toList || a.toList == b.toList))) := rfl
@[go_sem] theorem p_sgtr (a b : ByteArray) : binP .gtr (.string a) (.string b) = True := rfl
@[go_sem] theorem b_sgeq (a b : ByteArray) : bin .geq (.string a) (.string b) = some (.bool (!Op.bytesLess a.toList b.toList)) := rfl
@[go_sem] theorem p_sgeq (a b : ByteArray) : binP .geq (.string a) (.string b) = True := rfl
@[go_sem] theorem takeApp1 {α : Type} (l : List α) (a : α) : List.take (l.length + 1) (l ++ [a]) = l ++ [a] := List.take_of_length_le (by simp)
@[go_sem] theorem flL_some (x : Option Nat) (H H' : HL) : flL (some (x,H,H')) = flatNew H' := rfl
@[go_sem] theorem flL_none : flL none = True := rfl
@[go_sem] theorem fN_ (id es : Nat) (rows : List (List Leaf)) (H : HL) : flatNew ((id,some (true,.arr false es rows)) :: H) = scR rows := rfl
@[go_sem] theorem scR_nil : scR [] = True := rfl
@[go_sem] theorem scR_cons (r : List Leaf) (q : List (List Leaf)) : scR (r :: q) = (scr r ∧ scR q) := rfl
@[go_sem] theorem scr_nil : scr [] = True := rfl
@[go_sem] theorem scr_i (k : IntKind) (n : Int) (r : List Leaf) : scr (.sc (.int k n) :: r) = scr r := propext ⟨fun h => h.2,fun h => ⟨rfl,h⟩⟩
@[go_sem] theorem scr_b (b : Bool) (r : List Leaf) : scr (.sc (.bool b) :: r) = scr r := propext ⟨fun h => h.2,fun h => ⟨rfl,h⟩⟩
@[go_sem] theorem scr_s (b : ByteArray) (r : List Leaf) : scr (.sc (.string b) :: r) = scr r := propext ⟨fun h => h.2,fun h => ⟨rfl,h⟩⟩
@[go_sem] theorem setLast1 {α β : Type} (l : List α) (x : α) (e : α → β) (a b : β) : (List.map e (l ++ [x]) ++ [a]).set (l.length + 1) b = List.map e (l ++ [x]) ++ [b] := by rw [List.set_append_right _ _ (by simp)]; simp
@[go_sem] theorem ifLen1 {α β : Type} (l : List α) (x : α) (a b : β) : (if l.length + 1 ≤ (l ++ [x]).length then a else b) = a := if_pos (by simp)
@[go_sem] theorem ifFA {α : Type} {p : Prop} [Decidable (False ∧ p)] (a b : α) : (if False ∧ p then a else b) = b := if_neg fun h => h.1
end S
theorem sA {p q : Prop} (h : q) (e : p = q := by (conv => lhs; simp (disch := first | assumption | (simp only [List.length_set]; assumption)) only [go_sem,Nat.reduceAdd,Nat.reduceMul,Nat.reduceSub,Nat.reduceEqDiff,↓reduceIte,Nat.reduceLT,reduceCtorEq,Nat.reduceLeDiff,Int.reduceToNat,Int.reduceEq,Int.reduceLE,Int.reduceLT,Nat.reduceBEq]); all_goals rfl) : p := e ▸ h
theorem andA {p q : Prop} (hq : q) (hp : p := by first | assumption | omega | exact ⟨by omega,fun _ => mapLen fun _ => rfl⟩ | (refine ⟨by omega,?_,by omega⟩; first | exact mapLen fun _ => rfl | simp) | (refine ⟨?_,by omega⟩; first | exact mapLen fun _ => rfl | simp) | (refine ⟨by (simp only [List.length_append,List.length_cons,List.length_nil]; omega),?_,by omega⟩; first | exact mapLen fun _ => rfl | simp)) : p ∧ q := ⟨hp,hq⟩
theorem andB {p q : Prop} (hq : q) (hp : p := by first | omega | (simp only [List.length_set,List.length_append,List.length_replicate,List.length_map]; omega)) : p ∧ q := ⟨hp,hq⟩
section
variable {E : Env} {x y : Code} {d : Nat} {s : St} {st : List Fm} {α : Type} {A B : Option α} {r : α}
theorem Bs_if {b c : Bool} (h : (if c = true then A else B) = some r) (h1 : A = some r → c = true → Bs E true x y d s st) (h2 : B = some r → c = false → Bs E false x y d s st)
  (e : b = c := by first | rfl | (simp only [beq_iff_eq]; done) | simp) : Bs E b x y d s st := by
 subst e
 cases b
 ·exact h2 h rfl
 ·exact h1 h rfl
theorem Sp_if {b c : Bool} {want : Bool} {op : Op} {dst : Option Nat} {md : Md} {all : Array Oper} {l : List Oper} (h : (if c = true then A else B) = some r) (h1 : A = some r → c = true → Sp E true d want op dst md all l s st) (h2 : B = some r → c = false → Sp E false d want op dst md all l s st)
  (e : b = c := by first | rfl | (simp only [beq_iff_eq]; done) | simp) : Sp E b d want op dst md all l s st := by
 subst e
 cases b
 ·exact h2 h rfl
 ·exact h1 h rfl
theorem Cl_sA {g : FuncId} {caps args args' : List LV} {H1 : HL} {nxr : Nat} {res : LV} {wd dst : Option Nat} {md : Md} {all : Array Oper} {l : List Oper} (h : Fn E.P g args' [] 0 res H1 nxr)
  (hK : R E (md.nx wd s.H (merged [] (hp s.H) s.nx H1 s.H)) all l (s.put dst (back [] s.nx res) (merged [] (hp s.H) s.nx H1 s.H) (s.nx + nxr)) st)
  (h1 : convAll [] (hp s.H) (args ++ caps) = some args' := by first | rfl | (simp (disch := first | assumption | (simp only [List.length_set]; assumption)) only [go_sem,Nat.reduceAdd,Nat.reduceMul,Nat.reduceSub,Nat.reduceEqDiff,↓reduceIte,Nat.reduceLT,reduceCtorEq,Nat.reduceLeDiff,Int.reduceToNat,Int.reduceEq,Int.reduceLE,Int.reduceLT,Nat.reduceBEq]; first | done | rfl) | (simp only [List.length_append,List.length_cons,List.length_nil,List.length_map,List.length_set,List.length_replicate,Nat.zero_add,Nat.reduceAdd]; rfl) | (simp (disch := first | assumption | (simp only [List.length_set]; assumption)) only [go_sem,Nat.reduceAdd,Nat.reduceMul,Nat.reduceSub,Nat.reduceEqDiff,↓reduceIte,Nat.reduceLT,reduceCtorEq,Nat.reduceLeDiff,Int.reduceToNat,Int.reduceEq,Int.reduceLE,Int.reduceLT,Nat.reduceBEq]; simp only [List.length_append,List.length_cons,List.length_nil,List.length_map,List.length_set,List.length_replicate,Nat.zero_add,Nat.reduceAdd]; rfl))
  (h6 : shownAll [] (hp s.H) (args ++ caps) = [] ∨ (free res = true ∧ ∀ p ∈ H1,∀ o,p.2 = some o → freeOb o.2 = true) := by first | exact .inl rfl | exact .inr ⟨rfl,by simp [freeOb,free1]⟩ | exact .inl (by simp (disch := first | assumption | (simp only [List.length_set]; assumption)) only [go_sem,Nat.reduceAdd,Nat.reduceMul,Nat.reduceSub,Nat.reduceEqDiff,↓reduceIte,Nat.reduceLT,reduceCtorEq,Nat.reduceLeDiff,Int.reduceToNat,Int.reduceEq,Int.reduceLE,Int.reduceLT,Nat.reduceBEq]; done)) : Cl E (.fn g caps) args wd dst md all l s st :=
 Cl_shown h h1 (FitAll.refl _) h6 hK
theorem Cl_hA {g : FuncId} {caps args args' : List LV} (ids : List Nat) {H0 H1 : HL} {nxr : Nat} {res : LV} {wd dst : Option Nat} {md : Md} {all : Array Oper} {l : List Oper} (h : Fn E.P g args' H0 ids.length res H1 nxr)
  (hK : R E (md.nx wd s.H (merged ids (hp s.H) s.nx H1 s.H)) all l (s.put dst (back ids s.nx res) (merged ids (hp s.H) s.nx H1 s.H) (s.nx + (nxr - ids.length))) st)
  (h1 : convAll ids (hp s.H) (args ++ caps) = some args' := by first | rfl | (simp (disch := first | assumption | (simp only [List.length_set]; assumption)) only [go_sem,Nat.reduceAdd,Nat.reduceMul,Nat.reduceSub,Nat.reduceEqDiff,↓reduceIte,Nat.reduceLT,reduceCtorEq,Nat.reduceLeDiff,Int.reduceToNat,Int.reduceEq,Int.reduceLE,Int.reduceLT,Nat.reduceBEq]; first | done | rfl) | (simp only [List.length_append,List.length_cons,List.length_nil,List.length_map,List.length_set,List.length_replicate,Nat.zero_add,Nat.reduceAdd]; rfl) | (simp (disch := first | assumption | (simp only [List.length_set]; assumption)) only [go_sem,Nat.reduceAdd,Nat.reduceMul,Nat.reduceSub,Nat.reduceEqDiff,↓reduceIte,Nat.reduceLT,reduceCtorEq,Nat.reduceLeDiff,Int.reduceToNat,Int.reduceEq,Int.reduceLE,Int.reduceLT,Nat.reduceBEq]; simp only [List.length_append,List.length_cons,List.length_nil,List.length_map,List.length_set,List.length_replicate,Nat.zero_add,Nat.reduceAdd]; rfl))
  (h3 : handed ids (hp s.H) 0 ids = some H0 := by first | rfl | (simp (disch := first | assumption | (simp only [List.length_set]; assumption)) only [go_sem,Nat.reduceAdd,Nat.reduceMul,Nat.reduceSub,Nat.reduceEqDiff,↓reduceIte,Nat.reduceLT,reduceCtorEq,Nat.reduceLeDiff,Int.reduceToNat,Int.reduceEq,Int.reduceLE,Int.reduceLT,Nat.reduceBEq]; first | done | rfl) | (simp only [List.length_append,List.length_cons,List.length_nil,List.length_map,List.length_set,List.length_replicate,Nat.zero_add,Nat.reduceAdd]; rfl) | (simp (disch := first | assumption | (simp only [List.length_set]; assumption)) only [go_sem,Nat.reduceAdd,Nat.reduceMul,Nat.reduceSub,Nat.reduceEqDiff,↓reduceIte,Nat.reduceLT,reduceCtorEq,Nat.reduceLeDiff,Int.reduceToNat,Int.reduceEq,Int.reduceLE,Int.reduceLT,Nat.reduceBEq]; simp only [List.length_append,List.length_cons,List.length_nil,List.length_map,List.length_set,List.length_replicate,Nat.zero_add,Nat.reduceAdd]; rfl)) (h4 : ids.Nodup := by decide) (h5 : shownAll ids (hp s.H) (args ++ caps) = [] := by first | rfl | (simp (disch := first | assumption | (simp only [List.length_set]; assumption)) only [go_sem,Nat.reduceAdd,Nat.reduceMul,Nat.reduceSub,Nat.reduceEqDiff,↓reduceIte,Nat.reduceLT,reduceCtorEq,Nat.reduceLeDiff,Int.reduceToNat,Int.reduceEq,Int.reduceLE,Int.reduceLT,Nat.reduceBEq]; done)) (h7 : (List.range ids.length).all (fun k => (look H1 k).isSome) = true := by rfl) : Cl E (.fn g caps) args wd dst md all l s st :=
 Cl_hand h h1 (FitAll.refl _) h3 h4 h5 h7 hK
theorem take_set2 {α : Type} {l : List α} {i j : Nat} {u v : α} : List.take l.length ((l.set i u).set j v) = (l.set i u).set j v := List.take_of_length_le (by simp)
theorem take_set1 {α : Type} {l : List α} {i : Nat} {u : α} : List.take l.length (l.set i u) = l.set i u := List.take_of_length_le (by simp)
theorem weakA {m : Nat} {s s2 : St} (ρ : Ren) (h1 : s2.nx = ρ.length := by rfl) (h2 : s2.nt = s.nt := by rfl) (h3 : ρ.take m = (List.range m).map some := by rfl) (hinj : dupB (tgt ρ s2.H) = false := by rfl)
  (hT : wkT ρ s.T s2.T := by ((try simp (disch := first | assumption | (simp only [List.length_set]; assumption)) only [go_sem,Nat.reduceAdd,Nat.reduceMul,Nat.reduceSub,Nat.reduceEqDiff,↓reduceIte,Nat.reduceLT,reduceCtorEq,Nat.reduceLeDiff,Int.reduceToNat,Int.reduceEq,Int.reduceLE,Int.reduceLT,Nat.reduceBEq]); (repeat' first | done | rfl | omega | refine And.intro ?_ ?_ | (simp; done) | (simp only [List.length_set,Nat.le_refl,↓reduceIte,take_set2,take_set1,go_sem]; done) | (simp; omega)))) (hH : wkHs ρ (hp s.H) s2.H := by ((try simp (disch := first | assumption | (simp only [List.length_set]; assumption)) only [go_sem,Nat.reduceAdd,Nat.reduceMul,Nat.reduceSub,Nat.reduceEqDiff,↓reduceIte,Nat.reduceLT,reduceCtorEq,Nat.reduceLeDiff,Int.reduceToNat,Int.reduceEq,Int.reduceLE,Int.reduceLT,Nat.reduceBEq]); (repeat' first | done | rfl | omega | refine And.intro ?_ ?_ | (simp; done) | (simp; omega)))) : Weak m s s2 := weak_of ρ h1 h2 h3 hinj hT hH
theorem endsA {tab : Tab} {m : Nat} {rs : List ResultVar} {res : LV} {H1 : HL} {nxr : Nat} {e : Exit} (s2 : St) (ρ : Ren) (h1 : s2.nx = ρ.length := by rfl) (h2 : s2.nt = s.nt := by rfl) (h3 : ρ.take m = (List.range m).map some := by rfl) (hinj : dupB (tgt ρ s2.H) = false := by rfl)
  (hT : wkT ρ s.T s2.T := by ((try simp (disch := first | assumption | (simp only [List.length_set]; assumption)) only [go_sem,Nat.reduceAdd,Nat.reduceMul,Nat.reduceSub,Nat.reduceEqDiff,↓reduceIte,Nat.reduceLT,reduceCtorEq,Nat.reduceLeDiff,Int.reduceToNat,Int.reduceEq,Int.reduceLE,Int.reduceLT,Nat.reduceBEq]); (repeat' first | done | rfl | omega | refine And.intro ?_ ?_ | (simp; done) | (simp only [List.length_set,Nat.le_refl,↓reduceIte,take_set2,take_set1,go_sem]; done) | (simp; omega)))) (hH : wkHs ρ (hp s.H) s2.H := by ((try simp (disch := first | assumption | (simp only [List.length_set]; assumption)) only [go_sem,Nat.reduceAdd,Nat.reduceMul,Nat.reduceSub,Nat.reduceEqDiff,↓reduceIte,Nat.reduceLT,reduceCtorEq,Nat.reduceLeDiff,Int.reduceToNat,Int.reduceEq,Int.reduceLE,Int.reduceLT,Nat.reduceBEq]); (repeat' first | done | rfl | omega | refine And.intro ?_ ?_ | (simp; done) | (simp; omega)))) (hE : Ends tab rs res H1 nxr e s2 := by ((try simp (disch := first | assumption | (simp only [List.length_set]; assumption)) only [go_sem,Nat.reduceAdd,Nat.reduceMul,Nat.reduceSub,Nat.reduceEqDiff,↓reduceIte,Nat.reduceLT,reduceCtorEq,Nat.reduceLeDiff,Int.reduceToNat,Int.reduceEq,Int.reduceLE,Int.reduceLT,Nat.reduceBEq]); (repeat' first | done | rfl | omega | refine And.intro ?_ ?_ | (simp; done) | (simp; omega)))) : EndsW tab m rs res H1 nxr e s :=
 ends_weak s2 (weak_of ρ h1 h2 h3 hinj hT hH) hE
theorem packW {m : Nat} {s s2 : St} (id : Nat) (hw : Weak m (s.pack id) s2) (hp : packP s.H id := by ((try simp (disch := first | assumption | (simp only [List.length_set]; assumption)) only [go_sem,Nat.reduceAdd,Nat.reduceMul,Nat.reduceSub,Nat.reduceEqDiff,↓reduceIte,Nat.reduceLT,reduceCtorEq,Nat.reduceLeDiff,Int.reduceToNat,Int.reduceEq,Int.reduceLE,Int.reduceLT,Nat.reduceBEq]); (repeat' first | done | rfl | omega | assumption | refine And.intro ?_ ?_ | (simp; done) | (simp; omega)))) : Weak m s s2 := (weak_pack id hp).trans hw
theorem ends_pack {tab : Tab} {m : Nat} {rs : List ResultVar} {res : LV} {H1 : HL} {nxr : Nat} {e : Exit} (id : Nat) (h : EndsW tab m rs res H1 nxr e (s.pack id)) (hp : packP s.H id := by ((try simp (disch := first | assumption | (simp only [List.length_set]; assumption)) only [go_sem,Nat.reduceAdd,Nat.reduceMul,Nat.reduceSub,Nat.reduceEqDiff,↓reduceIte,Nat.reduceLT,reduceCtorEq,Nat.reduceLeDiff,Int.reduceToNat,Int.reduceEq,Int.reduceLE,Int.reduceLT,Nat.reduceBEq]); (repeat' first | done | rfl | omega | assumption | refine And.intro ?_ ?_ | (simp; done) | (simp; omega)))) : EndsW tab m rs res H1 nxr e s := by
 unfold EndsW at h ⊢
 obtain ⟨s2,hw,hE⟩ := h
 exact ⟨s2,(weak_pack id hp).trans hw,hE⟩
end
end Go.TL
