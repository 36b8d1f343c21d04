import Derived.Test.YteonagfnhdlfcaaGreatDoorTlConv
set_option linter.unusedSimpArgs false
set_option linter.unusedVariables false
namespace Go.TL
open Go
theorem Bs_splitC {E : Env} {b : Bool} {x y : Code} {d : Nat} {s : St} {st : List Fm} (c : Bool) (e : b = c) (h1 : c = true → Bs E true x y d s st) (h2 : c = false → Bs E false x y d s st) : Bs E b x y d s st := by
 subst e; exact Bs_split h1 h2
def LoopP {σ ρ : Type} (Z : σ → St) (step : σ → Option (σ ⊕ ρ)) (y : ρ) : Nat → St → Prop := fun n s => ∃ g,Loops step n g y ∧ s = Z g
theorem W_loopP {E : Env} {x : Code} {s : St} {st : List Fm} {σ ρ : Type} (Z : σ → St) (step : σ → Option (σ ⊕ ρ)) (y : ρ) (s0 : σ) (h0 : loopF step s0 = some y) (hw : Weak E.m s (Z s0))
  (h : ∀ n g z,step g = some z → LK step n z y → W E x (Z g) (.loop (LoopP Z step y) n :: st)) : W E (.loop x) s st := by
 obtain ⟨n,hn⟩ := loop_some h0
 rw [S.W_loop]
 refine ⟨LoopP Z step y,n,⟨Z s0,hw,s0,hn,rfl⟩,fun n s hI => ?_⟩
 obtain ⟨g,hg,rfl⟩ := hI
 obtain ⟨z,h1,h2⟩ := hg.round
 exact h n g z h1 h2
theorem X_backP {E : Env} {s : St} {st : List Fm} {σ ρ : Type} {Z : σ → St} {step : σ → Option (σ ⊕ ρ)} {y : ρ} {n : Nat} {s' : σ} (hk : LK step n (.inl s') y) (hw : Weak E.m s (Z s')) :
  X E .normal s (.loop (LoopP Z step y) n :: st) := by
 obtain ⟨m,hm,hl⟩ := hk
 rw [S.X_loop_n]
 exact ⟨_,hm,_,hw,s',hl,rfl⟩
attribute [irreducible] LoopP
theorem Cl_shown {E : Env} {g : FuncId} {caps args args1 args' : List LV} {H1 : HL} {nxr : Nat} {res : LV} {wd dst : Option Nat} {md : Md} {all : Array Oper} {r : List Oper} {s : St} {st : List Fm} (h : Fn E.P g args' [] 0 res H1 nxr)
  (h1 : convAll [] (hp s.H) (args ++ caps) = some args1) (hf : FitAll args1 args') (h6 : shownAll [] (hp s.H) (args ++ caps) = [] ∨ (free res = true ∧ ∀ p ∈ H1,∀ o,p.2 = some o → freeOb o.2 = true))
  (hK : R E (md.nx wd s.H (merged [] (hp s.H) s.nx H1 s.H)) all r (s.put dst (back [] s.nx res) (merged [] (hp s.H) s.nx H1 s.H) (s.nx + nxr)) st) : Cl E (.fn g caps) args wd dst md all r s st := by
 unfold Cl
 exact ⟨h.1,[],args',args1,[],res,H1,nxr,h1,hf,rfl,List.nodup_nil,fun i _ hi => by simp at hi,h.2,h6,fun k hk => by simp at hk,hK⟩
theorem Cl_hand {E : Env} {g : FuncId} {caps args args1 args' : List LV} {ids : List Nat} {H0 H1 : HL} {nxr : Nat} {res : LV} {wd dst : Option Nat} {md : Md} {all : Array Oper} {r : List Oper} {s : St} {st : List Fm} (h : Fn E.P g args' H0 ids.length res H1 nxr)
  (h1 : convAll ids (hp s.H) (args ++ caps) = some args1) (hf : FitAll args1 args') (h3 : handed ids (hp s.H) 0 ids = some H0) (h4 : ids.Nodup) (h5 : shownAll ids (hp s.H) (args ++ caps) = []) (h7 : (List.range ids.length).all (fun k => (look H1 k).isSome) = true)
  (hK : R E (md.nx wd s.H (merged ids (hp s.H) s.nx H1 s.H)) all r (s.put dst (back ids s.nx res) (merged ids (hp s.H) s.nx H1 s.H) (s.nx + (nxr - ids.length))) st) : Cl E (.fn g caps) args wd dst md all r s st := by
 unfold Cl
 exact ⟨h.1,ids,args',args1,H0,res,H1,nxr,h1,hf,h3,h4,fun i hi => by (rw [h5] at hi; simp at hi),h.2,.inl h5,fun k hk => List.all_eq_true.1 h7 k (List.mem_range.2 hk),hK⟩
def mnE (f : Int → Int → Int) : Option Value → Option Value → Option (Prop × LV)
 | some (.int k p),some (.int _ q) => some (True,.lf false (.sc (.int k (f p q))))
 | _,_ => none
namespace S
@[go_sem] theorem mnE_ (f : Int → Int → Int) (k k' : IntKind) (p q : Int) : mnE f (some (.int k p)) (some (.int k' q)) = some (True,.lf false (.sc (.int k (f p q)))) := rfl
@[go_sem] theorem o_minL (P : Program) (tab : Tab) (s : St) (x y : Operand) (t u : Nat) : opE P tab s (.call { callee := .builtin .min,args := #[x,y],argTypes := #[t,u] }) = lift s (mnE min (sc? (ev s.T x)) (sc? (ev s.T y))) := by
 simp only [opE,map_lift,pureE]
 unfold builtinE mnE
 simp only
 rcases sc? (ev s.T x) with _ | (_ | _ | _ | _ | _ | _ | _ | _ | _ | _ | _ | _ | _ | _) <;> (try rfl) <;> rcases sc? (ev s.T y) with _ | (_ | _ | _ | _ | _ | _ | _ | _ | _ | _ | _ | _ | _ | _) <;> rfl
@[go_sem] theorem o_maxL (P : Program) (tab : Tab) (s : St) (x y : Operand) (t u : Nat) : opE P tab s (.call { callee := .builtin .max,args := #[x,y],argTypes := #[t,u] }) = lift s (mnE max (sc? (ev s.T x)) (sc? (ev s.T y))) := by
 simp only [opE,map_lift,pureE]
 unfold builtinE mnE
 simp only
 rcases sc? (ev s.T x) with _ | (_ | _ | _ | _ | _ | _ | _ | _ | _ | _ | _ | _ | _ | _) <;> (try rfl) <;> rcases sc? (ev s.T y) with _ | (_ | _ | _ | _ | _ | _ | _ | _ | _ | _ | _ | _ | _ | _) <;> rfl
end S
abbrev Bd := Option (IntKind × Int)
def bndA : Option Value → Option Bd
 | some (.int k n) => some (some (k,n))
 | _ => none
def cutStr (l h : Bd) (b : ByteArray) : Option (Prop × LV) := some (0 ≤ lowOf l ∧ lowOf l ≤ highOf h b.size ∧ highOf h b.size ≤ b.size,.lf false (.sc (.string (b.extract (lowOf l).toNat (highOf h b.size).toNat))))
def cutLf (l h : Bd) (tt : Bool) (rows : List (List Leaf)) : Option TE → Option (Prop × LV)
 | some ee => some ((0 ≤ lowOf l ∧ lowOf l ≤ highOf h rows.length ∧ highOf h rows.length ≤ rows.length) ∧ (0 < lowOf l → ∀ r ∈ rows,r.length = ee.size),.lf tt (.sl ((rows.drop (lowOf l).toNat).take ((highOf h rows.length).toNat - (lowOf l).toNat))))
 | none => none
def cutOs (l h : Bd) (id es o0 len mc : Nat) (ex : Bool) : Option TE → Option (Prop × LV)
 | some ee => if ee.size = es then some (0 ≤ lowOf l ∧ lowOf l ≤ highOf h len ∧ highOf h len ≤ ((max len mc : Nat) : Int),.os id es (o0 + (lowOf l).toNat) ((highOf h len).toNat - (lowOf l).toNat) (max len mc - (lowOf l).toNat) (ex || false)) else none
 | none => none
def cutNil (l h : Bd) : Option TE → Option (Prop × LV)
 | some _ => some (lowOf l = 0 ∧ highOf h 0 = 0 ∧ (0 : Int) = 0,.nl)
 | none => none
def cutC (tab : Tab) (l h : Bd) : Option TE → LV → Option (Prop × LV)
 | some ⟨_,_,_,.str⟩,.lf _ (.sc (.string b)) => cutStr l h b
 | some ⟨_,_,_,.slice el⟩,.lf tt (.sl rows) => cutLf l h tt rows (look tab el)
 | some ⟨_,_,_,.slice el⟩,.os id es o0 len mc ex => cutOs l h id es o0 len mc ex (look tab el)
 | some ⟨_,_,_,.slice el⟩,.nl => cutNil l h (look tab el)
 | _,_ => none
namespace S
@[go_sem] theorem bndA_ (k : IntKind) (n : Int) : bndA (some (.int k n)) = some (some (k,n)) := rfl
theorem bnd_ (T : List (Nat × LV)) (x : Operand) : bnd T (some x) = bndA (sc? (ev T x)) := by
 unfold bnd bndA
 simp only
 rcases sc? (ev T x) with _ | (_ | _ | _ | _ | _ | _ | _ | _ | _ | _ | _ | _ | _ | _) <;> rfl
def cutM (tab : Tab) (e : Option TE) (x : LV) : Option Bd → Option Bd → Option (Prop × LV)
 | some l,some h => cutC tab l h e x
 | _,_ => none
@[go_sem] theorem cutM_ (tab : Tab) (e : Option TE) (x : LV) (l h : Bd) : cutM tab e x (some l) (some h) = cutC tab l h e x := rfl
def bdO (T : List (Nat × LV)) : Option Operand → Option Bd
 | none => some none
 | some x => bndA (sc? (ev T x))
theorem bdO_eq (T : List (Nat × LV)) (x : Option Operand) : bnd T x = bdO T x := by
 cases x with
 | none => rfl
 | some x => exact bnd_ T x
@[go_sem] theorem bdO_n (T : List (Nat × LV)) : bdO T none = some none := rfl
@[go_sem] theorem bdO_s (T : List (Nat × LV)) (x : Operand) : bdO T (some x) = bndA (sc? (ev T x)) := rfl
@[go_sem] theorem lo_n : lowOf none = 0 := rfl
@[go_sem] theorem lo_s (k : IntKind) (n : Int) : lowOf (some (k,n)) = n := rfl
@[go_sem] theorem hi_n (n : Int) : highOf none n = n := rfl
@[go_sem] theorem hi_s (k : IntKind) (n m : Int) : highOf (some (k,n)) m = n := rfl
@[go_sem] theorem cC_str (tab : Tab) (l h : Bd) (a b : Nat) (z : List Value) (t : Bool) (x : ByteArray) : cutC tab l h (some ⟨a,b,z,.str⟩) (.lf t (.sc (.string x))) = cutStr l h x := rfl
@[go_sem] theorem cC_lf (tab : Tab) (l h : Bd) (a b : Nat) (z : List Value) (el : Nat) (t : Bool) (rows : List (List Leaf)) : cutC tab l h (some ⟨a,b,z,.slice el⟩) (.lf t (.sl rows)) = cutLf l h t rows (look tab el) := rfl
@[go_sem] theorem cC_os (tab : Tab) (l h : Bd) (a b : Nat) (z : List Value) (el id es o0 len mc : Nat) (ex : Bool) : cutC tab l h (some ⟨a,b,z,.slice el⟩) (.os id es o0 len mc ex) = cutOs l h id es o0 len mc ex (look tab el) := rfl
@[go_sem] theorem cStr_ (l h : Bd) (b : ByteArray) : cutStr l h b = some (0 ≤ lowOf l ∧ lowOf l ≤ highOf h b.size ∧ highOf h b.size ≤ b.size,.lf false (.sc (.string (b.extract (lowOf l).toNat (highOf h b.size).toNat)))) := rfl
@[go_sem] theorem cLf_ (l h : Bd) (tt : Bool) (rows : List (List Leaf)) (ee : TE) : cutLf l h tt rows (some ee) = some ((0 ≤ lowOf l ∧ lowOf l ≤ highOf h rows.length ∧ highOf h rows.length ≤ rows.length) ∧ (0 < lowOf l → ∀ r ∈ rows,r.length = ee.size),.lf tt (.sl ((rows.drop (lowOf l).toNat).take ((highOf h rows.length).toNat - (lowOf l).toNat)))) := rfl
@[go_sem] theorem cOs_ (l h : Bd) (id es o0 len mc : Nat) (ex : Bool) (a b : Nat) (z : List Value) (sh : Sh) : cutOs l h id es o0 len mc ex (some ⟨a,b,z,sh⟩) = if a = es then some (0 ≤ lowOf l ∧ lowOf l ≤ highOf h len ∧ highOf h len ≤ ((max len mc : Nat) : Int),.os id es (o0 + (lowOf l).toNat) ((highOf h len).toNat - (lowOf l).toNat) (max len mc - (lowOf l).toNat) (ex || false)) else none := rfl
@[go_sem] theorem o_cut (P : Program) (tab : Tab) (s : St) (t : Nat) (x : Operand) (lo hi : Option Operand) : opE P tab s (.slice t x lo hi none) = lift s (cutM tab (look tab t) (ev s.T x) (bdO s.T lo) (bdO s.T hi)) := by
 rw [o_slice]
 refine congrArg _ ?_
 unfold cutE
 rw [bdO_eq,bdO_eq,show bnd s.T none = some none from rfl]
 cases bdO s.T lo with
 | none => rfl
 | some l =>
  cases bdO s.T hi with
  | none => rfl
  | some h =>
   cases look tab t with
   | none => rfl
   | some e =>
    obtain ⟨a,b,z,sh⟩ := e
    cases sh <;> (try rfl)
    ·generalize ev s.T x = v
     rcases v with _ | ⟨_,_ | _⟩ | _ | _ | _ | _ | _ | _ | _ | _ <;> (try rfl)
     rename_i v
     cases v <;> rfl
    ·rename_i el
     simp only [cutM]
     generalize ev s.T x = v
     cases hee : look tab el with
     | none =>
      rcases v with _ | ⟨_,_ | _⟩ | _ | _ | _ | _ | _ | _ | _ | _ <;> (simp only [cutC,cutLf,cutOs,hee]) <;> rfl
     | some ee =>
      have hno : ¬ (h.map (·.2) = some 0 ∧ (none : Bd).map (·.2) = some 0 ∧ lo.isNone = true) := fun hh => by cases hh.2.1
      rcases v with _ | ⟨_,_ | _⟩ | _ | _ | _ | _ | _ | _ | _ | _ <;> simp only [hee,if_neg hno,cutC,cutLf,cutOs] <;> (try rfl)
      rename_i len mc ex
      have hm : max (len : Int) mc = ((max len mc : Nat) : Int) := by omega
      have hn : highOf (none : Bd) ((max len mc : Nat) : Int) = ((max len mc : Nat) : Int) := rfl
      simp [hm,hn]
def cutE3 (tab : Tab) (e : Option TE) (x : LV) (l h m : Option Bd) : Option (Prop × LV) := match l,h,m,e with
 | some l,some h,some m,some e => match e.sh with
  | .slice el => match look tab el with
   | some ee => match x with
    | .os id es o0 len mc ex => if ee.size = es ∧ (m.isSome = true → h.isSome = true) then some (0 ≤ lowOf l ∧ lowOf l ≤ highOf h len ∧ highOf h len ≤ highOf m ((max (len : Int) mc)) ∧ highOf m ((max (len : Int) mc)) ≤ ((max len mc : Nat) : Int),
      .os id es (o0 + (lowOf l).toNat) ((highOf h len).toNat - (lowOf l).toNat) ((highOf m ((max (len : Int) mc))).toNat - (lowOf l).toNat) (ex || m.isSome)) else none
    | .nl => if m.isSome = true → h.isSome = true then some (lowOf l = 0 ∧ highOf h 0 = 0 ∧ highOf m 0 = 0,.nl) else none
    | _ => none
   | none => none
  | _ => none
 | _,_,_,_ => none
def cutOs3 (l : Bd) (k k' : IntKind) (n n' : Int) (id es o0 len mc : Nat) (ex : Bool) : Option TE → Option (Prop × LV)
 | some ee => if ee.size = es then some (0 ≤ lowOf l ∧ lowOf l ≤ n ∧ n ≤ n' ∧ n' ≤ ((max len mc : Nat) : Int),.os id es (o0 + (lowOf l).toNat) (n.toNat - (lowOf l).toNat) (n'.toNat - (lowOf l).toNat) (ex || true)) else none
 | none => none
@[go_sem] theorem c3_os (tab : Tab) (l : Bd) (k k' : IntKind) (n n' : Int) (a b : Nat) (z : List Value) (el id es o0 len mc : Nat) (ex : Bool) : cutE3 tab (some ⟨a,b,z,.slice el⟩) (.os id es o0 len mc ex) (some l) (some (some (k,n))) (some (some (k',n'))) = cutOs3 l k k' n n' id es o0 len mc ex (look tab el) := by
 unfold cutE3 cutOs3
 simp only
 cases look tab el with
 | none => rfl
 | some ee =>
  have hm : max (len : Int) mc = ((max len mc : Nat) : Int) := by omega
  simp only [Option.isSome,true_implies,and_true,hm]
  rfl
@[go_sem] theorem cOs3_ (l : Bd) (k k' : IntKind) (n n' : Int) (id es o0 len mc : Nat) (ex : Bool) (a b : Nat) (z : List Value) (sh : Sh) : cutOs3 l k k' n n' id es o0 len mc ex (some ⟨a,b,z,sh⟩) = if a = es then some (0 ≤ lowOf l ∧ lowOf l ≤ n ∧ n ≤ n' ∧ n' ≤ ((max len mc : Nat) : Int),.os id es (o0 + (lowOf l).toNat) (n.toNat - (lowOf l).toNat) (n'.toNat - (lowOf l).toNat) (ex || true)) else none := rfl
def cutN3 (l : Bd) (n n' : Int) : Option TE → Option (Prop × LV)
 | some _ => some (lowOf l = 0 ∧ n = 0 ∧ n' = 0,.nl)
 | none => none
@[go_sem] theorem c3_nl (tab : Tab) (l : Bd) (k k' : IntKind) (n n' : Int) (a b : Nat) (z : List Value) (el : Nat) : cutE3 tab (some ⟨a,b,z,.slice el⟩) .nl (some l) (some (some (k,n))) (some (some (k',n'))) = cutN3 l n n' (look tab el) := by
 unfold cutE3 cutN3
 simp only
 cases look tab el with
 | none => rfl
 | some ee => rfl
@[go_sem] theorem cN3_ (l : Bd) (n n' : Int) (ee : TE) : cutN3 l n n' (some ee) = some (lowOf l = 0 ∧ n = 0 ∧ n' = 0,.nl) := rfl
@[go_sem] theorem o_cut3 (P : Program) (tab : Tab) (s : St) (t : Nat) (x lo mx : Operand) (hi : Option Operand) : opE P tab s (.slice t x (some lo) hi (some mx)) = lift s (cutE3 tab (look tab t) (ev s.T x) (bdO s.T (some lo)) (bdO s.T hi) (bdO s.T (some mx))) := by
 rw [o_slice]
 refine congrArg _ ?_
 unfold cutE cutE3
 rw [bdO_eq,bdO_eq,bdO_eq]
 cases bdO s.T (some lo) with
 | none => rfl
 | some l =>
  cases bdO s.T hi with
  | none => rfl
  | some h =>
   cases bdO s.T (some mx) with
   | none => rfl
   | some m =>
    cases look tab t with
    | none => rfl
    | some e =>
     obtain ⟨a,b,z,sh⟩ := e
     cases sh <;> (try rfl)
     ·generalize ev s.T x = v
      simp only
      cases sc? v with
      | none => rfl
      | some u => cases u <;> rfl
     ·rename_i el
      simp only
      generalize ev s.T x = v
      cases hee : look tab el with
      | none => rfl
      | some ee =>
       have hno : ¬ (h.map (·.2) = some 0 ∧ m.map (·.2) = some 0 ∧ (some lo).isNone = true) := fun hh => by cases hh.2.2
       simp only [if_neg hno]
       rcases v with _ | ⟨_,_ | _⟩ | _ | _ | _ | _ | _ | _ | _ | _ <;> rfl
end S
def frz1 (id : Nat) (t : Bool) (es : Nat) (rows : List (List Leaf)) : LV → LV
 | .os id' es' lo len mc ex => if id' = id ∧ es' = es ∧ lo + len ≤ rows.length then .lf t (.sl ((rows.drop lo).take len)) else .os id' es' lo len mc ex
 | lv => lv
def frz2 (id : Nat) (t : Bool) (es : Nat) (rows : List (List Leaf)) : LV → LV
 | .ag ls => .ag (ls.map (frz1 id t es rows))
 | lv => frz1 id t es rows lv
def frzOb (id : Nat) (t : Bool) (es : Nat) (rows : List (List Leaf)) : Option (Bool × Ob) → Option (Bool × Ob)
 | some (fr,.box ls) => some (fr,.box (ls.map (frz1 id t es rows)))
 | o => o
def St.frzA (s : St) (id : Nat) : Option (Bool × Ob) → St
 | some (true,.arr t es rows) => ⟨s.T.map fun p => (p.1,frz2 id t es rows p.2),(id,none) :: s.H.map fun p => (p.1,frzOb id t es rows p.2),s.nx,s.nt⟩
 | some (true,.deep ss rows) => ⟨s.T.map fun p => (p.1,frz2 id false ss.length rows p.2),(id,none) :: s.H.map fun p => (p.1,frzOb id false ss.length rows p.2),s.nx,s.nt⟩
 | _ => s
def St.frz (s : St) (id : Nat) : St := s.frzA id (hp s.H id)
section
variable {w0 w : World} {W0 : Fr} {c : Ctx} {H : Heap}
theorem os_frz (s : Sit w0 W0 c H w) {id es lo len mc : Nat} {ex t : Bool} {rows : List (List Leaf)} {v : Value} (ho : H id = some (true,.arr t es rows)) (hl : lo + len ≤ rows.length) (hc : Cv w c (.os id es lo len mc ex) v) :
  Cv w (c.freeze id) (.lf t (.sl ((rows.drop lo).take len))) v := by
 cases hc with
 | os hid hlc hm hx ha hn =>
  rename_i cap a
  obtain ⟨g1,g0,g2,g3⟩ : Holds w c (c.loc id) (.arr t es rows) := (s.own id _ ho).2
  refine .lf ?_
  by_cases hz : len = 0
  ·subst hz
   rw [List.take_zero]
   exact .nil
  ·rcases ha with h0 | rfl
   ·omega
   have hrows : ((rows.drop lo).take len).length = len := by simp; omega
   have := @RepL.sl w ((c.freeze id).fs t) (c.loc id).b ((c.loc id).base + lo * es) cap es ((rows.drop lo).take len)
    (fun i j => (w.cell? ⟨(c.loc id).b,(c.loc id).base + lo * es + (i * es + j),none⟩).getD undef)
    (fun r hr => g0 r (List.mem_of_mem_drop (List.mem_of_mem_take hr))) (by omega)
    (fun i j hi hj => by
     have h1 := row_lt (es := es) (i := lo + i) (j := j) (n := rows.length) (by omega) hj
     rw [Nat.add_mul] at h1
     refine ⟨.inl (.inr (.inl ⟨rfl,by omega⟩)),?_⟩
     obtain ⟨u,hu,_⟩ := g2 (lo * es + (i * es + j)) (by omega)
     rw [← Nat.add_assoc] at hu
     rw [hu]; rfl)
    (fun i j hi hj => by
     have hi' : lo + i < rows.length := by omega
     have hj' : j < es := by rw [← g0 _ (List.getElem_mem hi')]; simpa using hj
     have h1 := row_lt (es := es) (i := lo + i) (j := j) (n := rows.length) hi' hj'
     rw [Nat.add_mul] at h1
     obtain ⟨u,hu,_⟩ := g2 (lo * es + (i * es + j)) (by omega)
     have h3 := g3 (lo + i) j hi' (by rw [g0 _ (List.getElem_mem hi')]; exact hj') u (by rw [Nat.add_mul,Nat.add_assoc]; exact hu)
     rw [← Nat.add_assoc] at hu
     simp only [List.getElem_take,List.getElem_drop,hu,Option.getD_some]
     exact h3.mono ((c.le_freeze id).fs t) fun _ _ _ => rfl)
   rw [hrows] at this
   exact this
theorem os_frzD (s : Sit w0 W0 c H w) {id lo len mc : Nat} {ex : Bool} {ss : List DSh} {rows : List (List Leaf)} {v : Value} (ho : H id = some (true,.deep ss rows)) (hl : lo + len ≤ rows.length) (hc : Cv w c (.os id ss.length lo len mc ex) v) :
  Cv w (c.freeze id) (.lf false (.sl ((rows.drop lo).take len))) v := by
 cases hc with
 | os hid hlc hm hx ha hn =>
  rename_i cap a
  obtain ⟨g1,g0,g2,B,hB,hd,g3⟩ : Holds w c (c.loc id) (.deep ss rows) := (s.own id _ ho).2
  refine .lf ?_
  by_cases hz : len = 0
  ·subst hz
   rw [List.take_zero]
   exact .nil
  ·rcases ha with h0 | rfl
   ·omega
   have hrows : ((rows.drop lo).take len).length = len := by simp; omega
   have := @RepL.sl w ((c.freeze id).fs false) (c.loc id).b ((c.loc id).base + lo * ss.length) cap ss.length ((rows.drop lo).take len)
    (fun i j => (w.cell? ⟨(c.loc id).b,(c.loc id).base + lo * ss.length + (i * ss.length + j),none⟩).getD undef)
    (fun r hr => g0 r (List.mem_of_mem_drop (List.mem_of_mem_take hr))) (by omega)
    (fun i j hi hj => by
     have h1 := row_lt (es := ss.length) (i := lo + i) (j := j) (n := rows.length) (by omega) hj
     rw [Nat.add_mul] at h1
     refine ⟨.inl (.inr (.inl ⟨rfl,by omega⟩)),?_⟩
     obtain ⟨u,hu,_⟩ := g2 (lo * ss.length + (i * ss.length + j)) (by omega)
     rw [← Nat.add_assoc] at hu
     rw [hu]; rfl)
    (fun i j hi hj => by
     have hi' : lo + i < rows.length := by omega
     have hj' : j < ss.length := by rw [← g0 _ (List.getElem_mem hi')]; simpa using hj
     have h1 := row_lt (es := ss.length) (i := lo + i) (j := j) (n := rows.length) hi' hj'
     rw [Nat.add_mul] at h1
     obtain ⟨u,hu,_⟩ := g2 (lo * ss.length + (i * ss.length + j)) (by omega)
     have h3 := g3 (lo + i) j hi' (by rw [g0 _ (List.getElem_mem hi')]; exact hj') hj' u (by rw [Nat.add_mul,Nat.add_assoc]; exact hu)
     rw [← Nat.add_assoc] at hu
     simp only [List.getElem_take,List.getElem_drop,hu,Option.getD_some]
     exact h3.rep fun b k hb => .inl (.inr (.inr (hB _ _ _ hb).1)))
   rw [hrows] at this
   exact this
def FrzOk (w : World) (c : Ctx) (id : Nat) (t : Bool) (es : Nat) (rows : List (List Leaf)) : Prop := ∀ lo len mc ex v,lo + len ≤ rows.length → Cv w c (.os id es lo len mc ex) v → Cv w (c.freeze id) (.lf t (.sl ((rows.drop lo).take len))) v
theorem frz1_ok {id es : Nat} {t : Bool} {rows : List (List Leaf)} (ho : FrzOk w c id t es rows) {lv : LV} {v : Value} (hc : Cv w c lv v) : Cv w (c.freeze id) (frz1 id t es rows lv) v := by
 unfold frz1
 split
 ·split
  ·rename_i h
   obtain ⟨rfl,rfl,h⟩ := h
   exact ho _ _ _ _ _ h hc
  ·exact hc.mono (c.le_freeze id) (.refl c w)
 ·exact hc.mono (c.le_freeze id) (.refl c w)
theorem frz2_ok {id es : Nat} {t : Bool} {rows : List (List Leaf)} (ho : FrzOk w c id t es rows) {lv : LV} {v : Value} (hc : Cv w c lv v) : Cv w (c.freeze id) (frz2 id t es rows lv) v := by
 unfold frz2
 split
 ·cases hc with
  | ag cs hn hv h =>
   refine .ag cs (by simpa using hn) (fun j hj => hv j (by simpa using hj)) fun j hj => ?_
   rw [List.getElem_map]
   exact frz1_ok ho (h j (by simpa using hj))
 ·exact frz1_ok ho hc
end
theorem tv_map (f : LV → LV) (hf : f .un = .un) (T : List (Nat × LV)) (i : Nat) : tv (T.map fun p => (p.1,f p.2)) i = f (tv T i) := by
 unfold tv
 induction T with
 | nil => exact hf.symm
 | cons p r ih =>
  obtain ⟨k,x⟩ := p
  simp only [List.map_cons,look]
  split
  ·rfl
  ·exact ih
theorem hp_map (f : Option (Bool × Ob) → Option (Bool × Ob)) (hf : f none = none) (H : HL) (i : Nat) : hp (H.map fun p => (p.1,f p.2)) i = f (hp H i) := by
 unfold hp
 induction H with
 | nil => exact hf.symm
 | cons p r ih =>
  obtain ⟨k,x⟩ := p
  simp only [List.map_cons,look]
  split
  ·rfl
  ·exact ih
theorem rel_frz {w0 w : World} {W0 : Fr} {c c0 : Ctx} {s : St} {a : Act} (hle : c0.Le c) (hr : Rel w0 W0 c s a w) {id es : Nat} {t : Bool} {rows : List (List Leaf)} {o : Ob} (ho : hp s.H id = some (true,o)) (hf : FrzOk w c id t es rows) :
  Rl w0 W0 c0 ⟨s.T.map fun p => (p.1,frz2 id t es rows p.2),(id,none) :: s.H.map fun p => (p.1,frzOb id t es rows p.2),s.nx,s.nt⟩ a w := by
 have hsit := hr.sit.freeze ho
 refine ⟨c.freeze id,hle.trans (c.le_freeze id),?_,hr.nx,fun i => ?_,hr.sz,hr.df⟩
 ·have hH : ∀ i o,hp ((id,none) :: s.H.map fun p => (p.1,frzOb id t es rows p.2)) i = some o → ∃ o',TL.upd (hp s.H) id none i = some (o.1,o') ∧ (∀ L,Holds w c L o' → Holds w (c.freeze id) L o.2) ∧ (deepB o' = true → deepB o.2 = true) := by
   intro i o h
   rw [hp_cons] at h
   by_cases e : i = id
   ·subst e; rw [upd_same] at h; cases h
   ·rw [upd_ne _ _ e,hp_map _ rfl] at h
    rw [upd_ne _ _ e]
    cases hx : hp s.H i with
    | none => rw [hx] at h; cases h
    | some o1 =>
     obtain ⟨fr,o1⟩ := o1
     rw [hx] at h
     cases o1 with
     | box ls =>
      simp only [frzOb] at h
      cases h
      refine ⟨.box ls,rfl,fun L hh => ?_,fun x => (by cases x)⟩
      obtain ⟨g1,g2,g3⟩ := hh
      exact ⟨by simpa using g1,g2,fun j hj v hv => by
       simp only [List.getElem_map]
       exact frz1_ok hf (g3 j (by simpa using hj) v hv)⟩
     | arr t' es' rows' =>
      simp only [frzOb] at h
      cases h
      exact ⟨_,rfl,fun L hh => hh.mono (c.le_freeze id) (.refl c w) fun _ _ _ => ⟨rfl,rfl⟩,fun x => x⟩
     | deep ss' rows' =>
      simp only [frzOb] at h
      cases h
      exact ⟨_,rfl,fun L hh => hh.mono (c.le_freeze id) (.refl c w) fun _ _ _ => ⟨rfl,rfl⟩,fun x => x⟩
     | foc ss' rows' p' ks' =>
      simp only [frzOb] at h
      cases h
      exact ⟨_,rfl,fun L hh => hh.mono (c.le_freeze id) (.refl c w) fun _ _ _ => ⟨rfl,rfl⟩,fun x => x⟩
  refine ⟨hsit.keep,fun i o h => ?_,fun i j oi oj hi hj hij => ?_,fun i o h => ?_,hsit.old,hsit.new,fun b k v he => ?_,fun i o h => ?_,fun i o h x hx => ?_⟩
  ·obtain ⟨o',h1,h2,_⟩ := hH i o h
   have hne : i ≠ id := fun e => by subst e; rw [upd_same] at h1; cases h1
   rw [upd_ne _ _ hne] at h1
   exact ⟨(hr.sit.own i _ h1).1,h2 _ (hr.sit.own i _ h1).2⟩
  ·obtain ⟨_,h1,_⟩ := hH i oi hi
   obtain ⟨_,h2,_⟩ := hH j oj hj
   exact hsit.dis i j _ _ h1 h2 hij
  ·obtain ⟨o',h1,_⟩ := hH i o h
   have := hsit.sep i _ h1
   exact this
  ·obtain ⟨r1,r2,r3,r4,r5⟩ := hsit.res b k v he
   exact ⟨r1,r2,r3,r4,fun i o h => by
    obtain ⟨o',h1,_⟩ := hH i o h
    exact r5 i _ h1⟩
  ·obtain ⟨o',h1,_⟩ := hH i o h
   have := hsit.pl i _ h1
   exact this
  ·obtain ⟨o',h1,_,h2⟩ := hH i o h
   have := hsit.mo i _ h1 x hx
   exact ⟨this.1,h2 this.2⟩
 ·show Cv w (c.freeze id) (tv (s.T.map fun p => (p.1,frz2 id t es rows p.2)) i) _
  rw [tv_map _ rfl]
  exact frz2_ok hf (hr.tmp i)
theorem weak_frz {m : Nat} {s : St} (id : Nat) : Weak m s (s.frz id) := by
 intro w0 W0 c0 a w hm ⟨c,hle,hr⟩
 unfold St.frz
 unfold St.frzA
 split
 ·rename_i t es rows ho
  exact rel_frz hle hr ho fun lo len mc ex v h1 h2 => os_frz hr.sit ho h1 h2
 ·rename_i ss rows ho
  exact rel_frz hle hr ho fun lo len mc ex v h1 h2 => os_frzD hr.sit ho h1 h2
 ·exact ⟨c,hle,hr⟩
theorem ends_frz {tab : Tab} {m : Nat} {rs : List ResultVar} {res : LV} {H1 : HL} {nxr : Nat} {e : Exit} {s : St} (id : Nat) (h : EndsW tab m rs res H1 nxr e (s.frz id)) : EndsW tab m rs res H1 nxr e s := by
 unfold EndsW at h ⊢
 obtain ⟨s2,hw,hE⟩ := h
 exact ⟨s2,(weak_frz id).trans hw,hE⟩
namespace S
@[go_sem] theorem frz_ (T : List (Nat × LV)) (H : HL) (nx nt id : Nat) : St.frz ⟨T,H,nx,nt⟩ id = St.frzA ⟨T,H,nx,nt⟩ id (hp H id) := rfl
@[go_sem] theorem frzA_ (T : List (Nat × LV)) (H : HL) (nx nt id : Nat) (t : Bool) (es : Nat) (rows : List (List Leaf)) : St.frzA ⟨T,H,nx,nt⟩ id (some (true,.arr t es rows)) =
 ⟨T.map fun p => (p.1,frz2 id t es rows p.2),(id,none) :: H.map fun p => (p.1,frzOb id t es rows p.2),nx,nt⟩ := rfl
@[go_sem] theorem f1_os (id : Nat) (t : Bool) (es : Nat) (rows : List (List Leaf)) (id' es' lo len mc : Nat) (ex : Bool) : frz1 id t es rows (.os id' es' lo len mc ex) = if id' = id ∧ es' = es ∧ lo + len ≤ rows.length then .lf t (.sl ((rows.drop lo).take len)) else .os id' es' lo len mc ex := rfl
@[go_sem] theorem f1_lf (id : Nat) (t : Bool) (es : Nat) (rows : List (List Leaf)) (t' : Bool) (l : Leaf) : frz1 id t es rows (.lf t' l) = .lf t' l := rfl
@[go_sem] theorem f1_nl (id : Nat) (t : Bool) (es : Nat) (rows : List (List Leaf)) : frz1 id t es rows .nl = .nl := rfl
@[go_sem] theorem f1_un (id : Nat) (t : Bool) (es : Nat) (rows : List (List Leaf)) : frz1 id t es rows .un = .un := rfl
@[go_sem] theorem f1_pb (id : Nat) (t : Bool) (es : Nat) (rows : List (List Leaf)) (k off : Nat) : frz1 id t es rows (.pb k off) = .pb k off := rfl
@[go_sem] theorem f1_pe (id : Nat) (t : Bool) (es : Nat) (rows : List (List Leaf)) (k e i off : Nat) : frz1 id t es rows (.pe k e i off) = .pe k e i off := rfl
@[go_sem] theorem f1_ra (id : Nat) (t : Bool) (es : Nat) (rows : List (List Leaf)) (t' : Bool) (ls : List Leaf) : frz1 id t es rows (.ra t' ls) = .ra t' ls := rfl
@[go_sem] theorem f1_tu (id : Nat) (t : Bool) (es : Nat) (rows : List (List Leaf)) (ls : List LV) : frz1 id t es rows (.tu ls) = .tu ls := rfl
@[go_sem] theorem f2_ag (id : Nat) (t : Bool) (es : Nat) (rows : List (List Leaf)) (ls : List LV) : frz2 id t es rows (.ag ls) = .ag (ls.map (frz1 id t es rows)) := rfl
@[go_sem] theorem f2_os (id : Nat) (t : Bool) (es : Nat) (rows : List (List Leaf)) (id' es' lo len mc : Nat) (ex : Bool) : frz2 id t es rows (.os id' es' lo len mc ex) = frz1 id t es rows (.os id' es' lo len mc ex) := rfl
@[go_sem] theorem f2_lf (id : Nat) (t : Bool) (es : Nat) (rows : List (List Leaf)) (t' : Bool) (l : Leaf) : frz2 id t es rows (.lf t' l) = .lf t' l := rfl
@[go_sem] theorem f2_nl (id : Nat) (t : Bool) (es : Nat) (rows : List (List Leaf)) : frz2 id t es rows .nl = .nl := rfl
@[go_sem] theorem f2_un (id : Nat) (t : Bool) (es : Nat) (rows : List (List Leaf)) : frz2 id t es rows .un = .un := rfl
@[go_sem] theorem f2_pb (id : Nat) (t : Bool) (es : Nat) (rows : List (List Leaf)) (k off : Nat) : frz2 id t es rows (.pb k off) = .pb k off := rfl
@[go_sem] theorem f2_pe (id : Nat) (t : Bool) (es : Nat) (rows : List (List Leaf)) (k e i off : Nat) : frz2 id t es rows (.pe k e i off) = .pe k e i off := rfl
@[go_sem] theorem f2_ra (id : Nat) (t : Bool) (es : Nat) (rows : List (List Leaf)) (t' : Bool) (ls : List Leaf) : frz2 id t es rows (.ra t' ls) = .ra t' ls := rfl
@[go_sem] theorem f2_tu (id : Nat) (t : Bool) (es : Nat) (rows : List (List Leaf)) (ls : List LV) : frz2 id t es rows (.tu ls) = .tu ls := rfl
@[go_sem] theorem fo_box (id : Nat) (t : Bool) (es : Nat) (rows : List (List Leaf)) (fr : Bool) (ls : List LV) : frzOb id t es rows (some (fr,.box ls)) = some (fr,.box (ls.map (frz1 id t es rows))) := rfl
@[go_sem] theorem fo_arr (id : Nat) (t : Bool) (es : Nat) (rows : List (List Leaf)) (fr : Bool) (t' : Bool) (es' : Nat) (rows' : List (List Leaf)) : frzOb id t es rows (some (fr,.arr t' es' rows')) = some (fr,.arr t' es' rows') := rfl
@[go_sem] theorem fo_none (id : Nat) (t : Bool) (es : Nat) (rows : List (List Leaf)) : frzOb id t es rows none = none := rfl
@[go_sem] theorem frzA_d (T : List (Nat × LV)) (H : HL) (nx nt id : Nat) (ss : List DSh) (rows : List (List Leaf)) : St.frzA ⟨T,H,nx,nt⟩ id (some (true,.deep ss rows)) =
 ⟨T.map fun p => (p.1,frz2 id false ss.length rows p.2),(id,none) :: H.map fun p => (p.1,frzOb id false ss.length rows p.2),nx,nt⟩ := rfl
@[go_sem] theorem fo_deep (id : Nat) (t : Bool) (es : Nat) (rows : List (List Leaf)) (fr : Bool) (ss : List DSh) (rows' : List (List Leaf)) : frzOb id t es rows (some (fr,.deep ss rows')) = some (fr,.deep ss rows') := rfl
@[go_sem] theorem setLast {α β : Type} (l : List α) (e : α → β) (a b : β) : (l.map e ++ [a]).set l.length b = l.map e ++ [b] := by rw [List.set_append_right _ _ (by simp)]; simp
end S
section
variable {α : Type} {f : α → List Leaf} {l : List α} {n : Nat}
theorem takeLen : (l.map f).take l.length = l.map f := List.take_of_length_le (by simp)
theorem mapLen {k : Nat} (h : ∀ x,(f x).length = k) : ∀ r ∈ l.map f,r.length = k := by
 intro r hr
 obtain ⟨x,_,rfl⟩ := List.mem_map.1 hr
 exact h x
theorem toNat_lt {i : Int} {n : Nat} (h : 0 ≤ i ∧ i < (n : Int)) : i.toNat < n := by omega
theorem takeM : (l.map f).take n = (l.take n).map f := List.map_take.symm
theorem dropM : (l.map f).drop n = (l.drop n).map f := List.map_drop.symm
theorem appM {l' : List α} : l.map f ++ l'.map f = (l ++ l').map f := List.map_append.symm
theorem takeDropL {l : List α} : (l.drop n).take (l.length - n) = l.drop n := List.take_of_length_le (by simp)
end
theorem wI_ (n : Int) : IntKind.i64.wrap n = wI n := by
 unfold IntKind.wrap wI
 simp only [IntKind.bits,IntKind.signed,Bool.true_and,decide_eq_true_eq,ge_iff_le]
 rfl
theorem wU_ (n : Int) : IntKind.u64.wrap n = wU n := by
 unfold IntKind.wrap wU
 simp only [IntKind.bits,IntKind.signed,Bool.false_and,Bool.false_eq_true,if_false]
 rfl
theorem wB_ (n : Int) : IntKind.u8.wrap n = wB n := by
 unfold IntKind.wrap wB
 simp only [IntKind.bits,IntKind.signed,Bool.false_and,Bool.false_eq_true,if_false]
 rfl
attribute [go_sem] rowGet takeLen takeM dropM appM List.drop_zero Nat.sub_zero toNat_i List.take_length wI_ wU_ wB_ takeDropL
theorem bLess_ : ∀ a b : List UInt8,Op.bytesLess a b = bLess a b
 | _,[] => by cases ‹List UInt8› <;> rfl
 | [],_ :: _ => rfl
 | a :: r,b :: q => by simp only [Op.bytesLess,bLess,bLess_ r q]
theorem sLt_ (a b : ByteArray) : Op.bytesLess a.toList b.toList = sLt a b := bLess_ _ _
def lget : List LV → Nat → Option Value
 | [],_ => none
 | x :: _,0 => sc? x
 | _ :: r,n + 1 => lget r n
theorem lget_eq : ∀ (l : List LV) (n : Nat),(l[n]?).bind sc? = lget l n
 | [],_ => by simp [lget]
 | x :: _,0 => by simp [lget]
 | _ :: r,n + 1 => by simp only [List.getElem?_cons_succ,lget]; exact lget_eq r n
def eqC (e : Option TE) (x y : Option Value) (b : Option Bool) : Option Bool := match e,x,y,b with
 | some e,some x,some y,some b => match e.sh,x,y with
  | .int _,.int k a,.int k' a' => if k = k' then some ((a == a') && b) else none
  | .bool,.bool p,.bool q => some ((p == q) && b)
  | .str,.string p,.string q => some ((p.toList == q.toList) && b)
  | _,_,_ => none
 | _,_,_,_ => none
def eqR (P : Program) (t : Nat) (op : BinOp) (x : Option Bool) : Option (Prop × LV) := match x,op with
 | some b,.eql => some (EqT P t,.lf false (.sc (.bool b)))
 | some b,.neq => some (EqT P t,.lf false (.sc (.bool (!b))))
 | _,_ => none
def eqG (P : Program) (tab : Tab) (t : Nat) (op : BinOp) (xs ys : List LV) (e : Option TE) : Option (Prop × LV) := match e with
 | some e => match e.sh with
  | .struct fs => eqR P t op (eqFs tab fs xs ys)
  | _ => none
 | none => none
namespace S
@[go_sem] theorem lget_z (x : LV) (r : List LV) : lget (x :: r) 0 = sc? x := rfl
@[go_sem] theorem lget_s (x : LV) (r : List LV) (n : Nat) : lget (x :: r) (n + 1) = lget r n := rfl
@[go_sem] theorem eqFs_nil (tab : Tab) (xs ys : List LV) : eqFs tab [] xs ys = some true := rfl
@[go_sem] theorem eqFs_cons (tab : Tab) (ft fo : Nat) (r : List (Nat × Nat)) (xs ys : List LV) : eqFs tab ((ft,fo) :: r) xs ys = eqC (look tab ft) (lget xs fo) (lget ys fo) (eqFs tab r xs ys) := by
 rw [← lget_eq,← lget_eq]; rfl
@[go_sem] theorem eqC_int (a b : Nat) (z : List Value) (k0 k : IntKind) (x y : Int) (q : Bool) : eqC (some ⟨a,b,z,.int k0⟩) (some (.int k x)) (some (.int k y)) (some q) = some ((x == y) && q) := by simp [eqC]
@[go_sem] theorem eqC_bool (a b : Nat) (z : List Value) (x y q : Bool) : eqC (some ⟨a,b,z,.bool⟩) (some (.bool x)) (some (.bool y)) (some q) = some ((x == y) && q) := rfl
@[go_sem] theorem eqC_str (a b : Nat) (z : List Value) (x y : ByteArray) (q : Bool) : eqC (some ⟨a,b,z,.str⟩) (some (.string x)) (some (.string y)) (some q) = some ((x.toList == y.toList) && q) := rfl
@[go_sem] theorem eqG_ (P : Program) (tab : Tab) (t : Nat) (op : BinOp) (xs ys : List LV) (a b : Nat) (z : List Value) (fs : List (Nat × Nat)) : eqG P tab t op xs ys (some ⟨a,b,z,.struct fs⟩) = eqR P t op (eqFs tab fs xs ys) := rfl
@[go_sem] theorem eqR_eql (P : Program) (t : Nat) (b : Bool) : eqR P t .eql (some b) = some (EqT P t,.lf false (.sc (.bool b))) := rfl
@[go_sem] theorem eqR_neq (P : Program) (t : Nat) (b : Bool) : eqR P t .neq (some b) = some (EqT P t,.lf false (.sc (.bool (!b)))) := rfl
@[go_sem] theorem binE_ag (P : Program) (tab : Tab) (op : BinOp) (t : Nat) (xs ys : List LV) : binE P tab op t (.ag xs) (.ag ys) = eqG P tab t op xs ys (look tab t) := by
 unfold binE eqG
 simp only [sc?]
 cases look tab t with
 | none => rfl
 | some e =>
  obtain ⟨a,b,z,sh⟩ := e
  cases sh <;> rfl
end S
namespace S
@[go_sem] theorem b_shrU (k : IntKind) (a b : Int) : bin .shr (.int .u64 a) (.int k b) = some (.int .u64 (shR 64 a b)) := rfl
@[go_sem] theorem b_shrI (k : IntKind) (a b : Int) : bin .shr (.int .i64 a) (.int k b) = some (.int .i64 (shR 64 a b)) := rfl
@[go_sem] theorem b_shlU (k : IntKind) (a b : Int) : bin .shl (.int .u64 a) (.int k b) = some (.int .u64 (wU (shL 64 a b))) := by rw [← wU_]; rfl
@[go_sem] theorem b_shlI (k : IntKind) (a b : Int) : bin .shl (.int .i64 a) (.int k b) = some (.int .i64 (wI (shL 64 a b))) := by rw [← wI_]; rfl
@[go_sem] theorem b_andU (a b : Int) : bin .and (.int .u64 a) (.int .u64 b) = some (.int .u64 (wU (bvAnd 64 a b))) := by rw [← wU_]; rfl
@[go_sem] theorem b_andI (a b : Int) : bin .and (.int .i64 a) (.int .i64 b) = some (.int .i64 (wI (bvAnd 64 a b))) := by rw [← wI_]; rfl
@[go_sem] theorem b_orU (a b : Int) : bin .or (.int .u64 a) (.int .u64 b) = some (.int .u64 (wU (bvOr 64 a b))) := by rw [← wU_]; rfl
@[go_sem] theorem b_orI (a b : Int) : bin .or (.int .i64 a) (.int .i64 b) = some (.int .i64 (wI (bvOr 64 a b))) := by rw [← wI_]; rfl
@[go_sem] theorem b_xorU (a b : Int) : bin .xor (.int .u64 a) (.int .u64 b) = some (.int .u64 (wU (bvXor 64 a b))) := by rw [← wU_]; rfl
@[go_sem] theorem b_xorI (a b : Int) : bin .xor (.int .i64 a) (.int .i64 b) = some (.int .i64 (wI (bvXor 64 a b))) := by rw [← wI_]; rfl
end S
def eI (x : Int) : List Leaf := [.sc (.int .i64 x)]
def eU64 (x : Int) : List Leaf := [.sc (.int .u64 x)]
def eU8 (x : Int) : List Leaf := [.sc (.int .u8 x)]
def eB (x : Bool) : List Leaf := [.sc (.bool x)]
def eS (x : ByteArray) : List Leaf := [.sc (.string x)]
@[go_sem] theorem eI_ (x : Int) : eI x = [.sc (.int .i64 x)] := rfl
@[go_sem] theorem eU64_ (x : Int) : eU64 x = [.sc (.int .u64 x)] := rfl
@[go_sem] theorem eU8_ (x : Int) : eU8 x = [.sc (.int .u8 x)] := rfl
@[go_sem] theorem eB_ (x : Bool) : eB x = [.sc (.bool x)] := rfl
@[go_sem] theorem eS_ (x : ByteArray) : eS x = [.sc (.string x)] := rfl
theorem foldI_set (l : List Int) (i : Nat) (x : Int) : (l.map eI).set i [.sc (.int .i64 x)] = (l.set i x).map eI := by rw [List.map_set]; rfl
theorem foldB_set (l : List Bool) (i : Nat) (x : Bool) : (l.map eB).set i [.sc (.bool x)] = (l.set i x).map eB := by rw [List.map_set]; rfl
theorem foldS_set (l : List ByteArray) (i : Nat) (x : ByteArray) : (l.map eS).set i [.sc (.string x)] = (l.set i x).map eS := by rw [List.map_set]; rfl
theorem fold_eU8_set (l : List Int) (i : Nat) (x : Int) : (l.map eU8).set i [.sc (.int .u8 x)] = (l.set i x).map eU8 := by rw [List.map_set]; rfl
theorem foldI_app (l : List Int) (x : Int) : l.map eI ++ [[.sc (.int .i64 x)]] = (l ++ [x]).map eI := by rw [List.map_append]; rfl
theorem foldB_app (l : List Bool) (x : Bool) : l.map eB ++ [[.sc (.bool x)]] = (l ++ [x]).map eB := by rw [List.map_append]; rfl
theorem foldS_app (l : List ByteArray) (x : ByteArray) : l.map eS ++ [[.sc (.string x)]] = (l ++ [x]).map eS := by rw [List.map_append]; rfl
theorem fold_eU8_app (l : List Int) (x : Int) : l.map eU8 ++ [[.sc (.int .u8 x)]] = (l ++ [x]).map eU8 := by rw [List.map_append]; rfl
attribute [go_sem] sLt_ foldI_set foldB_set foldS_set fold_eU8_set foldI_app foldB_app foldS_app fold_eU8_app
@[go_sem] theorem flat_eI (l : List Int) : flatR (l.map eI) = True := flat_map (fun x l h => by simp only [eI,List.mem_cons,List.not_mem_nil,or_false] at h; exact ⟨_,h⟩) l
@[go_sem] theorem flat_eU64 (l : List Int) : flatR (l.map eU64) = True := flat_map (fun x l h => by simp only [eU64,List.mem_cons,List.not_mem_nil,or_false] at h; exact ⟨_,h⟩) l
@[go_sem] theorem flat_eU8 (l : List Int) : flatR (l.map eU8) = True := flat_map (fun x l h => by simp only [eU8,List.mem_cons,List.not_mem_nil,or_false] at h; exact ⟨_,h⟩) l
@[go_sem] theorem flat_eB (l : List Bool) : flatR (l.map eB) = True := flat_map (fun x l h => by simp only [eB,List.mem_cons,List.not_mem_nil,or_false] at h; exact ⟨_,h⟩) l
@[go_sem] theorem flat_eS (l : List ByteArray) : flatR (l.map eS) = True := flat_map (fun x l h => by simp only [eS,List.mem_cons,List.not_mem_nil,or_false] at h; exact ⟨_,h⟩) l
def byC (x : Int) : Option (List Int) → Option (List Int)
 | some l => some (x :: l)
 | none => none
@[go_sem] theorem byC_ (x : Int) (l : List Int) : byC x (some l) = some (x :: l) := rfl
@[go_sem] theorem byO_nil : bytesOf? [] = some [] := rfl
@[go_sem] theorem byO_cons (x : Int) (q : List (List Leaf)) : bytesOf? ([.sc (.int .u8 x)] :: q) = byC x (bytesOf? q) := by
 unfold byC
 show (match byteOf? [Leaf.sc (.int .u8 x)],bytesOf? q with | some n,some l => some (n :: l) | _,_ => none) = _
 cases bytesOf? q <;> rfl
@[go_sem] theorem byO_map (l : List Int) : bytesOf? (l.map eU8) = some l := by
 induction l with
 | nil => rfl
 | cons x r ih =>
  show bytesOf? ([.sc (.int .u8 x)] :: r.map eU8) = _
  rw [byO_cons,ih]; rfl
theorem weak_pack {m : Nat} {s : St} (id : Nat) (hp : packP s.H id) : Weak m s (s.pack id) := fun w0 W0 c0 a w hm ⟨c,hle,hr⟩ => let ⟨c',h1,h2⟩ := rel_pack hr id hp; ⟨c',hle.trans h1,h2⟩
theorem Gh_id {E : Env} {id : Nat} {ops : Array Oper} {dr : Bool} {s : St} {st : List Fm} (h : Gh E false id ops dr s st) : Gh E true id ops dr s st := Gh_weak s (Weak.refl _ _) h
end Go.TL
