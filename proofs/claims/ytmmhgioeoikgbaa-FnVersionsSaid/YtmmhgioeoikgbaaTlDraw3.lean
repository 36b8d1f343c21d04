/- Regions whose order is drawn: every order comes to what the text's order comes to. -/
import Derived.Test.YtmmhgioeoikgbaaTlDraw2
set_option linter.unusedSimpArgs false
set_option linter.unusedVariables false
namespace Go.TL
open Go

theorem kind_le (op : Op) : kind op ≤ 3 := by
  cases op <;> simp only [kind] <;> (try omega)
  all_goals (split <;> omega)

theorem know_ok {w : World} {c : Ctx} {s : St} {d t : Nat} {b : Bool} {v : Value} (h : Cv w c (tv s.T t) v) (hb : sc? (tv s.T d) = some (.bool b)) : Cv w c (tv (s.know d b).T t) v := by
  unfold St.know
  simp only [tv_repl]
  by_cases e : t = d
  · subst e
    rw [if_pos rfl, (sc_of hb h).1]
    exact .lf (.sc rfl)
  · rw [if_neg e]
    exact h

theorem tv_put_ne {s : St} {dst : Option Nat} {lv : LV} {H : HL} {nx t : Nat} (h : dst ≠ some t) : tv (s.put dst lv H nx).T t = tv s.T t := by
  cases dst with
  | none => rfl
  | some d =>
    unfold St.put tv
    simp only [look]
    rw [if_neg fun e => h (by rw [e])]

theorem tv_put_eq {s : St} {lv : LV} {H : HL} {nx t : Nat} : tv (s.put (some t) lv H nx).T t = lv := by
  unfold St.put tv
  simp only [look, if_true, Option.getD_some]

theorem Guarded.same {all : Array Oper} {s sk : St} {o : Oper} (h : Guarded all s o sk) : sk.H = s.H ∧ sk.nx = s.nx ∧ sk.nt = s.nt := by
  rcases h with ⟨_, rfl⟩ | ⟨j, want, d, _, _, _, rfl⟩
  · exact ⟨rfl, rfl, rfl⟩
  · exact ⟨rfl, rfl, rfl⟩

theorem Guarded.cv {all : Array Oper} {s sk : St} {o : Oper} (h : Guarded all s o sk) {w : World} {c : Ctx} {t : Nat} {v : Value} (hv : Cv w c (tv s.T t) v) : Cv w c (tv sk.T t) v := by
  rcases h with ⟨_, rfl⟩ | ⟨j, want, d, _, _, hb, rfl⟩
  · exact hv
  · exact know_ok hv hb

section
variable {P : Program} {tab : Tab} {all : Array Oper} {cf : List (Nat × Nat)} {L : Log} {k : Nat} {s s' : St} {o : Oper}

theorem Stp.nt (h : Stp P tab all cf L k s o s') : s'.nt = s.nt := by
  rcases h.2 with ⟨sk, lv, H, nx, hg, _, rfl, _⟩ | ⟨j, want, d, _, _, _, rfl⟩
  · exact hg.same.2.2
  · rfl

theorem Stp.quiet (h : Stp P tab all cf L k s o s') (h2 : kind o.op ≠ 2) (h3 : kind o.op ≠ 3) : s'.H = s.H ∧ s'.nx = s.nx := by
  have hk : kind o.op ≤ 1 := by have := kind_le o.op; omega
  rcases h.2 with ⟨sk, lv, H, nx, hg, hw, rfl, _⟩ | ⟨j, want, d, _, _, _, rfl⟩
  · have := (opW_read (s' := sk) hk hw (fun _ _ => rfl) (fun _ _ => rfl)).1
    exact ⟨this.1.trans hg.same.1, this.2.trans hg.same.2.1⟩
  · exact ⟨rfl, rfl⟩

theorem Stp.keepT (h : Stp P tab all cf L k s o s') {t : Nat} (hd : o.dst ≠ some t) {w : World} {c : Ctx} {v : Value} (hv : Cv w c (tv s.T t) v) : Cv w c (tv s'.T t) v := by
  rcases h.2 with ⟨sk, lv, H, nx, hg, hw, rfl, _⟩ | ⟨j, want, d, _, _, hb, rfl⟩
  · rw [tv_put_ne hd]; exact hg.cv hv
  · rw [tv_put_ne hd]; exact know_ok hv hb
end

/-- The run in the text's order. -/
structure Run (P : Program) (tab : Tab) (all : Array Oper) (cf : List (Nat × Nat)) (L : Log) (st : Nat → St) : Prop where
  chk : Chk cf all
  log : okLog L cf
  stp : ∀ (i : Nat) (o : Oper), all[i]? = some o → Stp P tab all cf L i (st i) o (st (i + 1))

section
variable {P : Program} {tab : Tab} {all : Array Oper} {cf : List (Nat × Nat)} {L : Log} {st : Nat → St}

theorem there {i : Nat} (h : i < all.size) : ∃ o, all[i]? = some o := ⟨all[i], by simp [h]⟩
theorem bound {i : Nat} {o : Oper} (h : all[i]? = some o) : i < all.size := (Array.getElem?_eq_some_iff.1 h).1

theorem Run.nt (r : Run P tab all cf L st) : ∀ m, m ≤ all.size → (st m).nt = (st 0).nt
  | 0, _ => rfl
  | m + 1, h => by
    obtain ⟨o, ho⟩ := there (all := all) (i := m) (by omega)
    rw [(r.stp m o ho).nt, Run.nt r m (by omega)]

/-- Over operations that turn nothing. -/
theorem Run.idle (r : Run P tab all cf L st) {a : Nat} : ∀ n, a + n ≤ all.size → (∀ (j : Nat) (o : Oper), a ≤ j → j < a + n → all[j]? = some o → kind o.op ≠ 2) → (st (a + n)).H = (st a).H ∧ (st (a + n)).nx = (st a).nx
  | 0, _, _ => ⟨rfl, rfl⟩
  | n + 1, h, hq => by
    obtain ⟨o, ho⟩ := there (all := all) (i := a + n) (by omega)
    have ih := Run.idle r n (by omega) fun j o h1 h2 => hq j o h1 (by omega)
    have := (r.stp _ o ho).quiet (hq _ o (by omega) (by omega) ho) (r.chk.one _ o ho).1
    exact ⟨this.1.trans ih.1, this.2.trans ih.2⟩

theorem Run.idle' (r : Run P tab all cf L st) {a b : Nat} (hab : a ≤ b) (hb : b ≤ all.size) (hq : ∀ (j : Nat) (o : Oper), a ≤ j → j < b → all[j]? = some o → kind o.op ≠ 2) : (st b).H = (st a).H ∧ (st b).nx = (st a).nx := by
  have := r.idle (a := a) (b - a) (by omega) fun j o h1 h2 => hq j o h1 (by omega)
  rwa [show a + (b - a) = b by omega] at this

/-- An object that none of them turns. -/
theorem Run.kept (r : Run P tab all cf L st) {a id : Nat} : ∀ n, a + n ≤ all.size → (∀ (j : Nat) (o : Oper), a ≤ j → j < a + n → all[j]? = some o → kind o.op = 2 → hp (st j).H id = hp (st (j + 1)).H id) → hp (st a).H id = hp (st (a + n)).H id
  | 0, _, _ => rfl
  | n + 1, h, hq => by
    obtain ⟨o, ho⟩ := there (all := all) (i := a + n) (by omega)
    have ih := Run.kept r n (by omega) fun j o h1 h2 => hq j o h1 (by omega)
    rw [ih]
    by_cases hk : kind o.op = 2
    · exact hq _ o (by omega) (by omega) ho hk
    · have := (r.stp _ o ho).quiet hk (r.chk.one _ o ho).1
      rw [show a + (n + 1) = a + n + 1 by omega, this.1]

theorem Run.kept' (r : Run P tab all cf L st) {a b id : Nat} (hab : a ≤ b) (hb : b ≤ all.size) (hq : ∀ (j : Nat) (o : Oper), a ≤ j → j < b → all[j]? = some o → kind o.op = 2 → hp (st j).H id = hp (st (j + 1)).H id) : hp (st a).H id = hp (st b).H id := by
  have := r.kept (a := a) (id := id) (b - a) (by omega) fun j o h1 h2 => hq j o h1 (by omega)
  rwa [show a + (b - a) = b by omega] at this

/-- A variable that none of them writes. -/
theorem Run.lasts (r : Run P tab all cf L st) {a t : Nat} {w : World} {c : Ctx} {v : Value} (hv : Cv w c (tv (st a).T t) v) : ∀ n, a + n ≤ all.size → (∀ (j : Nat) (o : Oper), a ≤ j → j < a + n → all[j]? = some o → o.dst ≠ some t) → Cv w c (tv (st (a + n)).T t) v
  | 0, _, _ => hv
  | n + 1, h, hq => by
    obtain ⟨o, ho⟩ := there (all := all) (i := a + n) (by omega)
    have ih := Run.lasts r hv n (by omega) fun j o h1 h2 => hq j o h1 (by omega)
    exact (r.stp _ o ho).keepT (hq _ o (by omega) (by omega) ho) ih

theorem inCf_l {i j : Nat} (h : (i, j) ∈ cf) : inCf cf i = true := List.any_eq_true.2 ⟨_, h, by simp⟩
theorem inCf_r {i j : Nat} (h : (i, j) ∈ cf) : inCf cf j = true := List.any_eq_true.2 ⟨_, h, by simp⟩

/-- The operation j turns not what i reads. -/
theorem Run.apart (r : Run P tab all cf L st) {i j id : Nat} {oi oj : Oper} (hi : all[i]? = some oi) (hj : all[j]? = some oj) (hm : (i, j) ∈ cf) {sk : St} {lv : LV} {H : HL} {nx : Nat}
    (hlog : inCf cf i = true → look L i = some (wid sk.T oi.op, (st i).H, H)) (hid : wid sk.T oi.op = some id) : hp (st j).H id = hp (st (j + 1)).H id := by
  have h1 := hlog (inCf_l hm)
  rw [hid] at h1
  rcases (r.stp j oj hj).2 with ⟨sj, lvj, Hj, nxj, hg, hw, he, hl⟩ | ⟨_, _, _, _, _, _, he⟩
  · have h2 := hl (inCf_r hm)
    have := okLog_mem r.log hm h1 h2
    rw [this, he]
    rfl
  · rw [he]; rfl

def li (listed : Array Bool) (i : Nat) : Prop := listed.getD i false = true

structure Inv (all : Array Oper) (st : Nat → St) (w0 : World) (W0 : Fr) (c0 : Ctx) (listed : Array Bool) (a : Act) (w : World) (c : Ctx) (k : Nat) : Prop where
  sz : listed.size = all.size
  cl : Closed all.toList (li listed)
  le : c0.Le c
  kN : k ≤ all.size
  nx : c.nx = (st k).nx
  sit : Sit w0 W0 c (hp (st k).H) w
  loud : ∀ (j : Nat) (o : Oper), all[j]? = some o → kind o.op = 2 → (li listed j ↔ j < k)
  v1 : ∀ (j : Nat) (o : Oper), all[j]? = some o → li listed j → ∀ d, o.dst = some d → ∀ m, j < m → m ≤ all.size → Cv w c (tv (st m).T d) (a.tmps.getD d undef)
  v2 : ∀ t, (∀ (j : Nat) (o : Oper), all[j]? = some o → li listed j → o.dst ≠ some t) → ∀ m, m ≤ all.size → (∀ (j : Nat) (o : Oper), all[j]? = some o → j < m → o.dst ≠ some t) → Cv w c (tv (st m).T t) (a.tmps.getD t undef)
  tsz : a.tmps.size = (st 0).nt
  df : a.defers = []

def Ready (listed : Array Bool) (o : Oper) : Prop := ∀ e ∈ o.after.toList, Region.binds .any e = true → li listed e.on

theorem Inv.reach {w0 : World} {W0 : Fr} {c0 : Ctx} {listed : Array Bool} {a : Act} {w : World} {c : Ctx} {k : Nat} (v : Inv all st w0 W0 c0 listed a w c k) {j : Nat} {o : Oper} (hj : all[j]? = some o) (h : li listed j) : Ready listed o :=
  v.cl j o (by simpa using hj) h

theorem Inv.operand (r : Run P tab all cf L st) {w0 : World} {W0 : Fr} {c0 : Ctx} {listed : Array Bool} {a : Act} {w : World} {c : Ctx} {k : Nat} (v : Inv all st w0 W0 c0 listed a w c k) {i : Nat} {o : Oper} (hi : all[i]? = some o) (hu : ¬ li listed i) (hr : Ready listed o)
    {t : Nat} (ht : t ∈ o.looksAt all) : Cv w c (tv (st i).T t) (a.tmps.getD t undef) := by
  have hiN := bound hi
  by_cases hw : ∃ (j : Nat) (oj : Oper), all[j]? = some oj ∧ li listed j ∧ oj.dst = some t
  · obtain ⟨j, oj, hj, hlj, hd⟩ := hw
    have hne : j ≠ i := fun e => hu (e ▸ hlj)
    rcases Nat.lt_or_gt_of_ne hne with hlt | hgt
    · exact v.v1 j oj hj hlj t hd i hlt (by omega)
    · rcases r.chk.pair i j o oj hi hj hgt with h | ⟨h, _⟩
      · exact absurd (h _ v.cl (v.reach hj hlj)) hu
      · exact absurd ht ((Oper.apart_spec h).2.2 t hd)
  · refine v.v2 t (fun j oj hj hlj hd => hw ⟨j, oj, hj, hlj, hd⟩) i (by omega) fun j oj hj hlt hd => ?_
    rcases r.chk.pair j i oj o hj hi hlt with h | ⟨h, _⟩
    · exact hw ⟨j, oj, hj, h _ v.cl hr, hd⟩
    · exact absurd ht ((Oper.apart_spec h).1 t hd)

theorem Inv.loudAt (r : Run P tab all cf L st) {w0 : World} {W0 : Fr} {c0 : Ctx} {listed : Array Bool} {a : Act} {w : World} {c : Ctx} {k : Nat} (v : Inv all st w0 W0 c0 listed a w c k) {i : Nat} {o : Oper} (hi : all[i]? = some o) (hu : ¬ li listed i) (hr : Ready listed o)
    (hk : kind o.op = 2) : k ≤ i ∧ ∀ (j : Nat) (oj : Oper), k ≤ j → j < i → all[j]? = some oj → kind oj.op ≠ 2 := by
  have h1 : k ≤ i := by
    rcases Nat.lt_or_ge i k with h | h
    · exact absurd ((v.loud i o hi hk).2 h) hu
    · exact h
  refine ⟨h1, fun j oj hkj hji hj hkj2 => ?_⟩
  have hnl : ¬ li listed j := fun h => by have := (v.loud j oj hj hkj2).1 h; omega
  rcases r.chk.pair j i oj o hj hi hji with h | ⟨_, h, _⟩
  · exact hnl (h _ v.cl hr)
  · exact h ⟨hkj2, hk⟩

theorem Inv.readAt (r : Run P tab all cf L st) {w0 : World} {W0 : Fr} {c0 : Ctx} {listed : Array Bool} {a : Act} {w : World} {c : Ctx} {k : Nat} (v : Inv all st w0 W0 c0 listed a w c k) {i : Nat} {o : Oper} (hi : all[i]? = some o) (hu : ¬ li listed i) (hr : Ready listed o)
    (hk : kind o.op = 1) {sk : St} {H : HL} (hlog : inCf cf i = true → look L i = some (wid sk.T o.op, (st i).H, H)) {id : Nat} (hid : wid sk.T o.op = some id) : hp (st k).H id = hp (st i).H id := by
  have hiN := bound hi
  rcases Nat.le_total k i with hle | hle
  · refine r.kept' hle (by omega) fun j oj h1 h2 hj hk2 => ?_
    have hnl : ¬ li listed j := fun h => by have := (v.loud j oj hj hk2).1 h; omega
    rcases r.chk.pair j i oj o hj hi h2 with h | ⟨_, _, _, h⟩
    · exact absurd (h _ v.cl hr) hnl
    · exact r.apart (nx := 0) (lv := .un) hi hj (h hk2 hk) hlog hid
  · refine (r.kept' hle v.kN fun j oj h1 h2 hj hk2 => ?_).symm
    have hij : i < j := by
      rcases Nat.lt_or_ge i j with h | h
      · exact h
      · have : i = j := by omega
        subst this
        rw [hi] at hj; cases hj; omega
    have hlj := (v.loud j oj hj hk2).2 h2
    rcases r.chk.pair i j o oj hi hj hij with h | ⟨_, _, h, _⟩
    · exact absurd (h _ v.cl (v.reach hj hlj)) hu
    · exact r.apart (nx := 0) (lv := .un) hi hj (h hk hk2) hlog hid

theorem li_set {listed : Array Bool} {i j : Nat} (h : i < listed.size) : li (listed.setIfInBounds i true) j ↔ (j = i ∨ li listed j) := by
  unfold li
  simp only [Array.getD_eq_getD_getElem?, Array.getElem?_setIfInBounds]
  by_cases e : i = j
  · subst e; simp [h]
  · rw [if_neg e]
    constructor
    · exact .inr
    · rintro (h | h)
      · exact absurd h.symm e
      · exact h

theorem put_ne {a : Act} {dst : Option Nat} {v : Value} {t : Nat} (h : dst ≠ some t) : (a.put dst v).tmps.getD t undef = a.tmps.getD t undef := by
  cases dst with
  | none => rfl
  | some d =>
    simp only [Act.put, Array.getD_eq_getD_getElem?, Array.getElem?_setIfInBounds]
    rw [if_neg fun e => h (by rw [e])]

theorem put_eq {a : Act} {v : Value} {t : Nat} (h : t < a.tmps.size) : (a.put (some t) v).tmps.getD t undef = v := by
  simp [Act.put, h]

theorem Inv.step (r : Run P tab all cf L st) {w0 : World} {W0 : Fr} {c0 : Ctx} {listed : Array Bool} {a : Act} {w : World} {c : Ctx} {k : Nat} (v : Inv all st w0 W0 c0 listed a w c k) {i : Nat} {o : Oper} (hi : all[i]? = some o) (hu : ¬ li listed i) (hr : Ready listed o)
    {w' : World} {c' : Ctx} {k' : Nat} {x : Value} (hle : c.Le c') (hsame : Same c w w') (hk : (kind o.op = 2 ∧ k' = i + 1) ∨ (kind o.op ≠ 2 ∧ k' = k)) (hnx : c'.nx = (st k').nx) (hsit : Sit w0 W0 c' (hp (st k').H) w')
    (hx : ∀ d, o.dst = some d → Cv w' c' (tv (st (i + 1)).T d) x) : Inv all st w0 W0 c0 (listed.setIfInBounds i true) (a.put o.dst x) w' c' k' := by
  have hiN := bound hi
  have hset : ∀ j, li (listed.setIfInBounds i true) j ↔ (j = i ∨ li listed j) := fun j => li_set (by rw [v.sz]; exact hiN)
  have hdt : ∀ d, o.dst = some d → d < a.tmps.size := fun d hd => by
    have := (r.stp i o hi).1
    rw [hd] at this
    simp only [okDst, decide_eq_true_eq] at this
    rw [v.tsz, ← r.nt i (by omega)]
    exact this
  refine ⟨by simpa using v.sz, fun j oj hj hlj e he hb => ?_, v.le.trans hle, ?_, hnx, hsit, fun j oj hj hk2 => ?_, fun j oj hj hlj d hd m hjm hm => ?_, fun t ht m hm hw => ?_, ?_, ?_⟩
  · refine (hset _).2 (.inr ?_)
    rcases (hset j).1 hlj with rfl | h
    · have : oj = o := by
        have hj' : all[j]? = some oj := by simpa using hj
        rw [hi] at hj'; exact (Option.some.inj hj').symm
      subst this
      exact hr e he hb
    · exact v.cl j oj hj h e he hb
  · rcases hk with ⟨_, rfl⟩ | ⟨_, rfl⟩
    · omega
    · exact v.kN
  · rw [hset]
    rcases hk with ⟨h2, rfl⟩ | ⟨h2, rfl⟩
    · obtain ⟨g1, g2⟩ := v.loudAt r hi hu hr h2
      constructor
      · rintro (rfl | h)
        · omega
        · have := (v.loud j oj hj hk2).1 h; omega
      · intro h
        by_cases e : j = i
        · exact .inl e
        · right
          rcases Nat.lt_or_ge j k with hlt | hge
          · exact (v.loud j oj hj hk2).2 hlt
          · exact absurd hk2 (g2 j oj hge (by omega) hj)
    · rw [← v.loud j oj hj hk2]
      constructor
      · rintro (rfl | h)
        · rw [hi] at hj; cases hj; exact absurd hk2 h2
        · exact h
      · exact .inr
  · rcases (hset j).1 hlj with rfl | h
    · rw [hi] at hj
      cases hj
      rw [hd, put_eq (hdt d hd)]
      have := r.lasts (hx d hd) (m - (j + 1)) (by omega) fun j' o' h1 h2 hj' hd' => by
        exact r.chk.dst j j' o o' hi hj' (by omega) d hd hd'
      rwa [show j + 1 + (m - (j + 1)) = m by omega] at this
    · have hne : o.dst ≠ some d := fun hd' => by
        by_cases e : i = j
        · subst e; exact hu h
        · exact r.chk.dst i j o oj hi hj e d hd' hd
      rw [put_ne hne]
      exact (v.v1 j oj hj h d hd m hjm hm).mono hle hsame
  · have hne : o.dst ≠ some t := ht i o hi ((hset i).2 (.inl rfl))
    rw [put_ne hne]
    exact (v.v2 t (fun j oj hj h => ht j oj hj ((hset j).2 (.inr h))) m hm hw).mono hle hsame
  · rw [← v.tsz]
    cases o.dst <;> simp [Act.put]
  · rw [← v.df]
    cases o.dst <;> rfl

def restr (T : List (Nat × LV)) (ts : List Nat) : List (Nat × LV) := ts.map fun t => (t, tv T t)

theorem tv_restr {T : List (Nat × LV)} {t : Nat} : ∀ {ts : List Nat}, tv (restr T ts) t = if t ∈ ts then tv T t else .un
  | [] => by simp [restr, tv, look]
  | x :: r => by
    have ih := tv_restr (T := T) (t := t) (ts := r)
    unfold tv restr at ih ⊢
    simp only [List.map_cons, look]
    by_cases e : t = x
    · subst e; simp [tv]
    · rw [if_neg e, ih]
      simp [e]
end
end Go.TL
