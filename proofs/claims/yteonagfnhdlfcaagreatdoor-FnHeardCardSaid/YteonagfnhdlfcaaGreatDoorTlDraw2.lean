import Derived.Test.YteonagfnhdlfcaaGreatDoorTlDraw
set_option linter.unusedSimpArgs false
set_option linter.unusedVariables false
namespace Go.TL
open Go
def orAll (acc : List Nat) : List Edge → Nat
 | [] => 0
 | e :: r => (if Region.binds .any e then (2 ^ e.on ||| acc.getD e.on 0) else 0) ||| orAll acc r
def masks : List Oper → List Nat → List Nat
 | [],acc => acc
 | o :: r,acc => masks r (acc ++ [orAll acc o.after.toList])
def isAl : Op → Bool
 | .alloc _ => true
 | .buildSlice _ _ parts => !parts.toList.isEmpty
 | _ => false
def isBs : Op → Bool
 | .buildSlice _ _ _ => true
 | _ => false
def aheadB (ms : List Nat) (all : Array Oper) (i : Nat) : Bool :=
 (List.range i).all fun l => match all[l]? with
  | some o => kind o.op != 2 || (ms.getD i 0).testBit l
  | none => true
def useB (ms : List Nat) (cf : List (Nat × Nat)) (all : Array Oper) (i j : Nat) (x y : Oper) : Bool :=
 !isAl x.op || (kind y.op == 2 && (!isAl y.op || (match x.dst with | some d => !(y.looksAt all).contains d | none => true))) || aheadB ms all i || ((match x.dst with | some d => !(y.looksAt all).contains d | none => true) && (kind y.op != 1 || cf.contains (j,i)))
def pairB (ms : List Nat) (cf : List (Nat × Nat)) (all : Array Oper) (i j : Nat) (x y : Oper) : Bool :=
 (match x.dst with | some d => y.dst != some d | none => true) &&
 ((ms.getD j 0).testBit i || (x.apart all y && (match kind x.op,kind y.op with
  | 2,2 => isAl y.op
  | 1,2 => cf.contains (i,j)
  | 2,1 => cf.contains (j,i)
  | _,_ => true)))
def oneB (ms : List Nat) (cf : List (Nat × Nat)) (all : Array Oper) (i : Nat) (x : Oper) : Bool :=
 (!isAl x.op || x.guard == none || aheadB ms all i) && (!isBs x.op || aheadB ms all i || cf.contains (i,i)) && kind x.op != 3 && x.after.toList.all (fun e => !Region.binds .any e || decide (e.on < i))
def chk (cf : List (Nat × Nat)) (all : Array Oper) : Bool :=
 all.toList.zipIdx.all fun p => oneB (masks all.toList []) cf all p.2 p.1 && all.toList.zipIdx.all fun q => decide (q.2 ≤ p.2) || (pairB (masks all.toList []) cf all p.2 q.2 p.1 q.1 && useB (masks all.toList []) cf all p.2 q.2 p.1 q.1)
def Closed (ops : List Oper) (L : Nat → Prop) : Prop := ∀ j o,ops[j]? = some o → L j → ∀ e ∈ o.after.toList,Region.binds .any e = true → L e.on
def MaskOk (ops : List Oper) (acc : List Nat) : Prop := ∀ i,i < acc.length → ∀ L : Nat → Prop,Closed ops L →
 (∀ o,ops[i]? = some o → ∀ e ∈ o.after.toList,Region.binds .any e = true → L e.on) → ∀ j,(acc.getD i 0).testBit j = true → L j
theorem orAll_bit {acc : List Nat} {j : Nat} : ∀ {l : List Edge},(orAll acc l).testBit j = true → ∃ e ∈ l,Region.binds .any e = true ∧ (j = e.on ∨ (acc.getD e.on 0).testBit j = true)
 | [],h => by simp [orAll] at h
 | e :: r,h => by
  unfold orAll at h
  rw [Nat.testBit_or,Bool.or_eq_true] at h
  rcases h with h | h
  ·by_cases hb : Region.binds .any e = true
   ·rw [if_pos hb,Nat.testBit_or,Bool.or_eq_true,Nat.testBit_two_pow] at h
    refine ⟨e,List.mem_cons_self,hb,h.imp (fun h => ?_) id⟩
    exact (of_decide_eq_true h).symm
   ·rw [if_neg hb] at h; simp at h
  ·obtain ⟨e',he,hr⟩ := orAll_bit h
   exact ⟨e',List.mem_cons_of_mem _ he,hr⟩
theorem maskOk_step {ops : List Oper} {acc : List Nat} {o : Oper} (h : MaskOk ops acc) (ho : ops[acc.length]? = some o) : MaskOk ops (acc ++ [orAll acc o.after.toList]) := by
 intro i hi L hL hd j hj
 by_cases hlt : i < acc.length
 ·refine h i hlt L hL hd j ?_
  simpa [List.getD,List.getElem?_append_left hlt] using hj
 ·have hie : i = acc.length := by simp at hi; omega
  subst hie
  have hj' : (orAll acc o.after.toList).testBit j = true := by simpa [List.getD] using hj
  obtain ⟨e,he,hb,hr⟩ := orAll_bit hj'
  have hle := hd o ho e he hb
  rcases hr with rfl | hr
  ·exact hle
  ·by_cases h2 : e.on < acc.length
   ·exact h e.on h2 L hL (fun o' ho' => hL e.on o' ho' hle) j hr
   ·simp [List.getD,List.getElem?_eq_none (show acc.length ≤ e.on by omega)] at hr
theorem masks_ok {ops : List Oper} : ∀ (l pre : List Oper) (acc : List Nat),ops = pre ++ l → acc.length = pre.length → MaskOk ops acc → MaskOk ops (masks l acc) ∧ (masks l acc).length = ops.length
 | [],pre,acc,h,hn,hm => ⟨hm,by simp [masks,h,hn]⟩
 | o :: r,pre,acc,h,hn,hm => by
  unfold masks
  refine masks_ok r (pre ++ [o]) _ (by simp [h]) (by simp [hn]) (maskOk_step hm ?_)
  rw [h,hn]
  simp
def Forced (all : Array Oper) (x : Oper) (l : Nat) : Prop := ∀ L : Nat → Prop,Closed all.toList L → (∀ e ∈ x.after.toList,Region.binds .any e = true → L e.on) → L l
def Ahead (all : Array Oper) (i : Nat) (x : Oper) : Prop := ∀ (l : Nat) (o : Oper),l < i → all[l]? = some o → kind o.op = 2 → Forced all x l
structure Chk (cf : List (Nat × Nat)) (all : Array Oper) : Prop where
 one : ∀ (i : Nat) (x : Oper),all[i]? = some x → kind x.op ≠ 3 ∧ ∀ e ∈ x.after.toList,Region.binds .any e = true → e.on < i
 dst : ∀ (i j : Nat) (x y : Oper),all[i]? = some x → all[j]? = some y → i ≠ j → ∀ d,x.dst = some d → y.dst ≠ some d
 gd : ∀ (i : Nat) (x : Oper),all[i]? = some x → isAl x.op = true → x.guard = none ∨ Ahead all i x
 fl : ∀ (i : Nat) (x : Oper),all[i]? = some x → isBs x.op = true → Ahead all i x ∨ (i,i) ∈ cf
 use : ∀ (i j : Nat) (x y : Oper),all[i]? = some x → all[j]? = some y → i < j → isAl x.op = true → (kind y.op = 2 ∧ (isAl y.op = true → ∀ d,x.dst = some d → d ∉ y.looksAt all)) ∨ Ahead all i x ∨ ((∀ d,x.dst = some d → d ∉ y.looksAt all) ∧ (kind y.op = 1 → (j,i) ∈ cf))
 pair : ∀ (i j : Nat) (x y : Oper),all[i]? = some x → all[j]? = some y → i < j →
  (∀ L : Nat → Prop,Closed all.toList L → (∀ e ∈ y.after.toList,Region.binds .any e = true → L e.on) → L i) ∨
  (x.apart all y = true ∧ (kind x.op = 2 → kind y.op = 2 → isAl y.op = true) ∧ (kind x.op = 1 → kind y.op = 2 → (i,j) ∈ cf) ∧ (kind x.op = 2 → kind y.op = 1 → (j,i) ∈ cf))
theorem chk_ok {cf : List (Nat × Nat)} {all : Array Oper} (h : chk cf all = true) : Chk cf all := by
 unfold chk at h
 rw [List.all_eq_true] at h
 have hmem : ∀ (i : Nat) (x : Oper),all[i]? = some x → (x,i) ∈ all.toList.zipIdx := fun i x hx => by
  rw [List.mem_zipIdx_iff_getElem?]
  simpa using hx
 have hms := masks_ok (ops := all.toList) all.toList [] [] rfl rfl (fun i hi => by simp at hi)
 have hboth : ∀ (i j : Nat) (x y : Oper),all[i]? = some x → all[j]? = some y → i < j → pairB (masks all.toList []) cf all i j x y = true ∧ useB (masks all.toList []) cf all i j x y = true := by
  intro i j x y hx hy hij
  have := h _ (hmem i x hx)
  rw [Bool.and_eq_true,List.all_eq_true] at this
  have := this.2 _ (hmem j y hy)
  simp only [Bool.or_eq_true,Bool.and_eq_true,decide_eq_true_eq] at this
  rcases this with h | h
  ·omega
  ·exact h
 have hpb : ∀ (i j : Nat) (x y : Oper),all[i]? = some x → all[j]? = some y → i < j → pairB (masks all.toList []) cf all i j x y = true := fun i j x y hx hy hij => (hboth i j x y hx hy hij).1
 have hdst : ∀ (i j : Nat) (x y : Oper),all[i]? = some x → all[j]? = some y → i < j → ∀ d,x.dst = some d → y.dst ≠ some d := by
  intro i j x y hx hy hij d hd
  have := hpb i j x y hx hy hij
  unfold pairB at this
  rw [hd] at this
  simp only [Bool.and_eq_true,bne_iff_ne,ne_eq] at this
  exact this.1
 have hbit : ∀ (i j : Nat) (y : Oper),all[j]? = some y → ((masks all.toList []).getD j 0).testBit i = true → Forced all y i := by
  intro i j y hy h L hL hd
  have hjlt : j < (masks all.toList []).length := by rw [hms.2]; exact (by simpa using (Array.getElem?_eq_some_iff.1 hy).1)
  refine hms.1 j hjlt L hL (fun o ho => ?_) i h
  have : o = y := by
   have hy' : all.toList[j]? = some y := by simpa using hy
   rw [hy'] at ho
   exact (Option.some.inj ho).symm
  rw [this]
  exact hd
 have hahead : ∀ (i : Nat) (x : Oper),all[i]? = some x → aheadB (masks all.toList []) all i = true → Ahead all i x := by
  intro i x hx ha l o hl ho hk
  unfold aheadB at ha
  rw [List.all_eq_true] at ha
  have := ha l (List.mem_range.2 hl)
  rw [ho] at this
  simp only [Bool.or_eq_true,bne_iff_ne,ne_eq] at this
  rcases this with h | h
  ·exact absurd hk h
  ·exact hbit l i x hx h
 refine ⟨fun i x hx => ?_,fun i j x y hx hy hij d hd => ?_,fun i x hx hal => ?_,fun i x hx hbs => ?_,fun i j x y hx hy hij hal => ?_,fun i j x y hx hy hij => ?_⟩
 ·have := h _ (hmem i x hx)
  rw [Bool.and_eq_true] at this
  have := this.1
  unfold oneB at this
  rw [Bool.and_eq_true,Bool.and_eq_true,Bool.and_eq_true,List.all_eq_true] at this
  refine ⟨by simpa using this.1.2,fun e he hb => ?_⟩
  have := this.2 e he
  simpa [hb] using this
 ·rcases Nat.lt_or_gt_of_ne hij with hlt | hlt
  ·exact hdst i j x y hx hy hlt d hd
  ·exact fun hd' => hdst j i y x hy hx hlt d hd' hd
 ·have := h _ (hmem i x hx)
  rw [Bool.and_eq_true] at this
  have := this.1
  unfold oneB at this
  rw [Bool.and_eq_true,Bool.and_eq_true,Bool.and_eq_true] at this
  have := this.1.1.1
  simp only [hal,Bool.not_true,Bool.false_or,Bool.or_eq_true] at this
  rcases this with h | h
  ·left
   cases hg : x.guard with
   | none => rfl
   | some g => rw [hg] at h; cases h
  ·exact .inr (hahead i x hx h)
 ·have := h _ (hmem i x hx)
  rw [Bool.and_eq_true] at this
  have := this.1
  unfold oneB at this
  rw [Bool.and_eq_true,Bool.and_eq_true,Bool.and_eq_true] at this
  have := this.1.1.2
  simp only [hbs,Bool.not_true,Bool.false_or,Bool.or_eq_true] at this
  rcases this with h | h
  ·exact .inl (hahead i x hx h)
  ·exact .inr (by simpa using h)
 ·have := (hboth i j x y hx hy hij).2
  unfold useB at this
  simp only [hal,Bool.not_true,Bool.false_or,Bool.or_eq_true,Bool.and_eq_true,beq_iff_eq,bne_iff_ne,ne_eq,Bool.not_eq_true'] at this
  rcases this with (⟨h,h1⟩ | h) | ⟨h,h2⟩
  ·refine .inl ⟨h,fun hy2 d hd hm => ?_⟩
   rcases h1 with h1 | h1
   ·rw [h1] at hy2; cases hy2
   ·rw [hd] at h1
    simp at h1
    exact h1 hm
  ·exact .inr (.inl (hahead i x hx h))
  ·refine .inr (.inr ⟨fun d hd hm => ?_,fun hk => ?_⟩)
   ·rw [hd] at h
    simp at h
    exact h hm
   ·rcases h2 with h2 | h2
    ·exact absurd hk h2
    ·simpa using h2
 ·have := hpb i j x y hx hy hij
  unfold pairB at this
  rw [Bool.and_eq_true,Bool.or_eq_true,Bool.and_eq_true] at this
  rcases this.2 with h | ⟨h1,h2⟩
  ·exact .inl (hbit i j y hy h)
  ·right
   refine ⟨h1,fun a b => ?_,fun a b => ?_,fun a b => ?_⟩
   ·rw [a,b] at h2; exact h2
   ·rw [a,b] at h2; simpa using h2
   ·rw [a,b] at h2; simpa using h2
abbrev Log := List (Nat × (Option Nat × HL × HL))
def inCf (cf : List (Nat × Nat)) (k : Nat) : Bool := cf.any fun p => p.1 == k || p.2 == k
def scr : List Leaf → Prop
 | [] => True
 | .sc v :: r => scal v = true ∧ scr r
 | _ => False
def scR : List (List Leaf) → Prop
 | [] => True
 | r :: q => scr r ∧ scR q
def flatNew : HL → Prop
 | (_,some (_,.arr false _ rows)) :: _ => scR rows
 | _ => False
def flL : Option (Option Nat × HL × HL) → Prop
 | some (_,_,H') => flatNew H'
 | none => True
def okLog (L : Log) : List (Nat × Nat) → Prop
 | [] => True
 | (i,j) :: r => (if i = j then flL (look L i) else match look L i,look L j with
  | some (some id,_,_),some (_,H,H') => hp H id = hp H' id
  | _,_ => True) ∧ okLog L r
theorem okLog_mem {L : Log} {i j : Nat} (hij : i ≠ j) : ∀ {cf : List (Nat × Nat)},okLog L cf → (i,j) ∈ cf → ∀ {id a b x H H'},look L i = some (some id,a,b) → look L j = some (x,H,H') → hp H id = hp H' id
 | [],_,hm,id,a,b,x,H,H',_,_ => by simp at hm
 | (i',j') :: r,h,hm,id,a,b,x,H,H',h1,h2 => by
  rcases List.mem_cons.1 hm with h' | h'
  ·cases h'
   have := h.1
   rw [if_neg hij,h1,h2] at this
   exact this
  ·exact okLog_mem hij h.2 h' h1 h2
theorem okLog_self {L : Log} {i : Nat} : ∀ {cf : List (Nat × Nat)},okLog L cf → (i,i) ∈ cf → flL (look L i)
 | [],_,hm => by simp at hm
 | (i',j') :: r,h,hm => by
  rcases List.mem_cons.1 hm with h' | h'
  ·cases h'
   have := h.1
   rw [if_pos rfl] at this
   exact this
  ·exact okLog_self h.2 h'
def opsD (P : Program) (tab : Tab) (all : Array Oper) (cf : List (Nat × Nat)) : List Oper → Nat → St → Log → (St → Prop) → Prop
  | [],_,s,L,K => okLog L cf ∧ K s
  | o :: r,k,s,L,K => match o.guard with
    | none => stepW P tab s o fun s' => opsD P tab all cf r (k + 1) s' (bif inCf cf k then (k,(wid s.T o.op,s.H,s'.H)) :: L else L) K
    | some (j,want) => match (all[j]?).bind (·.dst) with
      | some d => byGd (tv s.T d) (fun b => (b = want → stepW P tab (s.know d want) o fun s' => opsD P tab all cf r (k + 1) s' (bif inCf cf k then (k,(wid (s.know d want).T o.op,s.H,s'.H)) :: L else L) K) ∧
            (b = !want → okDst s o.dst = true ∧ opsD P tab all cf r (k + 1) ((s.know d (!want)).put o.dst (.tu []) s.H s.nx) L K))
            (okDst s o.dst = true ∧ opsD P tab all cf r (k + 1) (s.put o.dst (.tu []) s.H s.nx) L K)
      | none => False
def Guarded (all : Array Oper) (s : St) (o : Oper) (sk : St) : Prop := (o.guard = none ∧ sk = s) ∨ ∃ j want d,o.guard = some (j,want) ∧ (all[j]?).bind (·.dst) = some d ∧ sc? (tv s.T d) = some (.bool want) ∧ sk = s.know d want
def Skips (s : St) (d : Nat) (want : Bool) (s1 : St) : Prop := (sc? (tv s.T d) = some (.bool (!want)) ∧ s1 = s.know d (!want)) ∨ (tv s.T d = .tu [] ∧ s1 = s)
def Stp (P : Program) (tab : Tab) (all : Array Oper) (cf : List (Nat × Nat)) (L : Log) (k : Nat) (s : St) (o : Oper) (s' : St) : Prop :=
  okDst s o.dst = true ∧
  ((∃ sk lv H nx,Guarded all s o sk ∧ opW P tab sk o.op (Eqs lv H nx) ∧ s' = sk.put o.dst lv H nx ∧ (inCf cf k = true → look L k = some (wid sk.T o.op,s.H,H))) ∨
   (∃ j want d s1,o.guard = some (j,want) ∧ (all[j]?).bind (·.dst) = some d ∧ Skips s d want s1 ∧ s' = s1.put o.dst (.tu []) s.H s.nx))
theorem stepW_det {P : Program} {tab : Tab} {s : St} {o : Oper} {K : St → Prop} (hk : kind o.op ≠ 3) (h : stepW P tab s o K) : okDst s o.dst = true ∧ ∃ lv H nx,K (s.put o.dst lv H nx) ∧ opW P tab s o.op (Eqs lv H nx) := by
 obtain ⟨h1,h2⟩ := h
 obtain ⟨lv,H,nx,hK,hw⟩ := opW_det hk h2
 exact ⟨h1,lv,H,nx,hK,hw⟩
theorem opsD_trace {P : Program} {tab : Tab} {all : Array Oper} {cf : List (Nat × Nat)} {K : St → Prop} : ∀ (l : List Oper) (k : Nat) (s : St) (L : Log),opsD P tab all cf l k s L K → (∀ o ∈ l,kind o.op ≠ 3) →
  ∃ (st : Nat → St) (L' : Log),st k = s ∧ K (st (k + l.length)) ∧ okLog L' cf ∧ (∀ i,i < k → look L' i = look L i) ∧ ∀ p (hp : p < l.length),Stp P tab all cf L' (k + p) (st (k + p)) l[p] (st (k + p + 1))
 | [],k,s,L,h,_ => ⟨fun _ => s,L,rfl,h.2,h.1,fun _ _ => rfl,fun p hp => by simp at hp⟩
 | o :: r,k,s,L,h,hk => by
  have ho := hk o List.mem_cons_self
  have hr : ∀ x ∈ r,kind x.op ≠ 3 := fun x hx => hk x (List.mem_cons_of_mem _ hx)
  have fin : ∀ (s' : St) (L2 : Log),opsD P tab all cf r (k + 1) s' L2 K → (∀ i,i < k → look L2 i = look L i) → (∀ L',(∀ i,i < k + 1 → look L' i = look L2 i) → Stp P tab all cf L' k s o s') →
    ∃ (st : Nat → St) (L' : Log),st k = s ∧ K (st (k + (o :: r).length)) ∧ okLog L' cf ∧ (∀ i,i < k → look L' i = look L i) ∧ ∀ p (hp : p < (o :: r).length),Stp P tab all cf L' (k + p) (st (k + p)) (o :: r)[p] (st (k + p + 1)) := by
   intro s' L2 h1 h2 h3
   obtain ⟨st,L',e1,e2,e3,e4,e5⟩ := opsD_trace r (k + 1) s' L2 h1 hr
   refine ⟨fun i => if i = k then s else st i,L',by simp,?_,e3,fun i hi => (e4 i (by omega)).trans (h2 i hi),fun p hp => ?_⟩
   ·simp only [List.length_cons]
    rw [if_neg (by omega),show k + (r.length + 1) = k + 1 + r.length by omega]
    exact e2
   ·cases p with
    | zero =>
     simp only [Nat.add_zero,if_true,List.getElem_cons_zero]
     rw [if_neg (by omega),e1]
     exact h3 L' e4
    | succ p =>
     have := e5 p (by simpa using hp)
     simp only [List.getElem_cons_succ]
     rw [if_neg (by omega),if_neg (by omega),show k + (p + 1) = k + 1 + p by omega]
     exact this
  unfold opsD at h
  split at h
  ·rename_i hg
   obtain ⟨hd,lv,H,nx,hK,hw⟩ := stepW_det ho h
   refine fin _ _ hK (fun i hi => ?_) fun L' hL' => ⟨hd,.inl ⟨s,lv,H,nx,.inl ⟨hg,rfl⟩,hw,rfl,fun hc => ?_⟩⟩
   ·cases inCf cf k
    ·rfl
    ·simp only [cond_true,look]; rw [if_neg (by omega)]
   ·rw [hL' k (by omega),hc]
    simp [look,St.put]
  ·rename_i j want hg
   split at h
   ·rename_i d hd'
    rcases byGd_of h with ⟨hu,h⟩ | ⟨b,hb,h⟩
    ·exact fin _ _ h.2 (fun i hi => rfl) fun L' hL' => ⟨h.1,.inr ⟨j,want,d,s,hg,hd',.inr ⟨hu,rfl⟩,rfl⟩⟩
    ·by_cases hbw : b = want
     ·subst hbw
      obtain ⟨hd,lv,H,nx,hK,hw⟩ := stepW_det ho (h.1 rfl)
      refine fin _ _ hK (fun i hi => ?_) fun L' hL' => ⟨hd,.inl ⟨s.know d b,lv,H,nx,.inr ⟨j,b,d,hg,hd',hb,rfl⟩,hw,rfl,fun hc => ?_⟩⟩
      ·cases inCf cf k
       ·rfl
       ·simp only [cond_true,look]; rw [if_neg (by omega)]
      ·rw [hL' k (by omega),hc]
       simp [look,St.put]
     ·have hb2 : b = !want := by cases b <;> cases want <;> simp_all
      obtain ⟨h1,h2⟩ := h.2 hb2
      exact fin _ _ h2 (fun i hi => rfl) fun L' hL' => ⟨h1,.inr ⟨j,want,d,_,hg,hd',.inl ⟨by rw [hb,hb2],rfl⟩,rfl⟩⟩
   ·exact h.elim
end Go.TL
