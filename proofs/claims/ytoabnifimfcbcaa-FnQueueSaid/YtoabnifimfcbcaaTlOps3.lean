/- Struct comparisons; least and greatest; bytes as a string. -/
import Derived.Test.YtoabnifimfcbcaaTlPure
import Derived.Test.YtoabnifimfcbcaaTlBuild
set_option linter.unusedSimpArgs false
set_option linter.unusedVariables false
namespace Go.TL
open Go

def eqFs (tab : Tab) : List (Nat × Nat) → List LV → List LV → Option Bool
  | [], _, _ => some true
  | (ft, fo) :: r, xs, ys => match look tab ft, xs[fo]?.bind sc?, ys[fo]?.bind sc?, eqFs tab r xs ys with
    | some e, some x, some y, some b => match e.sh, x, y with
      | .int _, .int k a, .int k' a' => if k = k' then some ((a == a') && b) else none
      | .bool, .bool p, .bool q => some ((p == q) && b)
      | .str, .string p, .string q => some ((p.toList == q.toList) && b)
      | _, _, _ => none
    | _, _, _, _ => none

def EqT (P : Program) (t : Nat) : Prop := P.stoodInHeld t = false ∧ P.eqGuardType P.depth t = false ∧ (P.fieldsOf t).toList.all (fun f => f.name != "_") = true

section
variable {P : Program} {s : St}

theorem ag_sc {w : World} {c : Ctx} {ls : List LV} {vs : Array Value} {x : Value} {o : Nat} (h : Cv w c (.ag ls) (.agg vs)) (hx : ls[o]?.bind sc? = some x) : vs[o]? = some x := by
  cases h with
  | ag cs hn hv hc =>
    cases hl : ls[o]? with
    | none => rw [hl] at hx; cases hx
    | some lv =>
      rw [hl] at hx
      obtain ⟨ho, rfl⟩ := List.getElem?_eq_some_iff.1 hl
      rw [hv o ho, (sc_of hx (hc o ho)).1]

theorem run_part_flat {t : Nat} {e : TE} (h : OkT P t e) (hk : e.sh.known = true) (ha : e.sh.agg = false) {cs : Array Value} {off : Nat} {v : Value} (hv : cs[off]? = some v) (w : World) : (part t cs off).run P w = .ok v w := by
  unfold part
  simp [h.runAgg hk w, ha, hv]

theorem eqFs_run {tab : Tab} (htab : TabOk P tab) {w : World} {c : Ctx} {xs ys : List LV} {vs us : Array Value} (hx : Cv w c (.ag xs) (.agg vs)) (hy : Cv w c (.ag ys) (.agg us)) (d : Nat) : ∀ (fl : List Field) (b : Bool), eqFs tab (fl.map fun f => (f.type, f.offset)) xs ys = some b →
    fl.all (fun f => f.name != "_") = true → (Op.eqFields (d + 1) vs us fl).run P w = .ok b w
  | [], b, h, _ => by cases h; rfl
  | f :: r, b, h, hn => by
    simp only [List.map_cons, eqFs] at h
    simp only [List.all_cons, Bool.and_eq_true, bne_iff_ne, ne_eq] at hn
    split at h
    · rename_i e x y b' he h1 h2 h3
      have hT := htab _ (look_mem he)
      have e1 := ag_sc hx h1
      have e2 := ag_sc hy h2
      have ih := eqFs_run htab hx hy d r b' h3 hn.2
      have fin : ∀ (q : Bool), e.sh.known = true → e.sh.agg = false → (Op.equalIn (d + 1) f.type x y).run P w = .ok q w → b = (q && b') → (Op.eqFields (d + 1) vs us (f :: r)).run P w = .ok b w := by
        intro q hk ha hq hb
        simp only [Op.eqFields, hn.1, ne_eq, not_false_eq_true, if_true, Sem.run_bind, run_part_flat hT hk ha e1 w, run_part_flat hT hk ha e2 w, Result.andThen_ok, hq]
        cases q
        · simp [hb]
        · simp [ih, hb]
      split at h
      · rename_i k k1 a k2 a' hs
        split at h
        · rename_i hkk
          subst hkk
          cases h
          exact fin (a == a') (by rw [hs]; rfl) (by rw [hs]; rfl) (run_equalIn_int w d _ _ _ _ _ (hT.int hs)) rfl
        · cases h
      · rename_i p q hs
        cases h
        exact fin (p == q) (by rw [hs]; rfl) (by rw [hs]; rfl) (run_equalIn_bool' w d _ _ _ (hT.bool hs)) rfl
      · rename_i p q hs
        cases h
        exact fin (p.toList == q.toList) (by rw [hs]; rfl) (by rw [hs]; rfl) (run_equalIn_string w d _ _ _ (hT.str hs)) rfl
      · cases h
    · cases h

theorem does_eqAg {tab : Tab} (htab : TabOk P tab) {t t' : Nat} {e : TE} {x y : Operand} {fs : List (Nat × Nat)} {xs ys : List LV} {b : Bool} {op : BinOp} (ht : OkT P t e) (hs : e.sh = .struct fs) (hop : op = .eql ∨ op = .neq) (hx : ev s.T x = .ag xs) (hy : ev s.T y = .ag ys) (hb : eqFs tab fs xs ys = some b) :
    Does P (.binOp op t x y t') s ⟨EqT P t, .lf false (.sc (.bool (if op = .eql then b else !b))), s.H, s.nx⟩ := by
  refine .quiet rfl rfl fun w0 W0 c a w hr ⟨g1, g2, g3⟩ => ?_
  have hx' := ev_ok hr x
  have hy' := ev_ok hr y
  rw [hx] at hx'
  rw [hy] at hy'
  obtain ⟨d, hd, hsh⟩ := ht.und
  rw [hs] at hsh
  cases d <;> simp [shapeOf] at hsh
  rename_i fields
  have hfo : P.fieldsOf t = fields := by unfold Program.fieldsOf; rw [hd]
  generalize hv : a.eval x = v at hx'
  generalize hu : a.eval y = u at hy'
  have hx2 := hx'
  have hy2 := hy'
  cases hx' with
  | @ag _ vs cs _ _ _ =>
    cases hy' with
    | @ag _ us ds _ _ _ =>
      have hrun := eqFs_run htab hx2 hy2 9998 fields.toList b (by rw [hsh]; exact hb) (by rw [← hfo]; exact g3)
      have h1 : (Op.equalIn 10000 t (.agg vs) (.agg us)).run P w = .ok b w := by
        rw [run_equalIn_struct w 9999 t vs us (by rw [hfo]; exact hd) g1, hfo]
        exact hrun
      refine ⟨_, fun o ho => ?_, .lf (.sc rfl)⟩
      unfold execOp
      rw [ho]
      simp only [hv, hu]
      have hg := run_eqGuard_agg (P := P) w op t x y vs us g2
      rcases hop with rfl | rfl
      · simp [hg, run_eql_struct, h1]
      · simp [hg, run_neq_struct, h1]

/-- The lesser or the greater of two whole numbers. -/
def mm (b : Builtin) (x y : Int) : Option Int := match b with
  | .min => some (min x y)
  | .max => some (max x y)
  | _ => none

theorem does_mm {b : Builtin} {c : Call} {x y : Operand} {k k' : IntKind} {p q n : Int} (hc : c.callee = .builtin b) (ha : c.args = #[x, y]) (hx : sc? (ev s.T x) = some (.int k p)) (hy : sc? (ev s.T y) = some (.int k' q)) (hn : mm b p q = some n) :
    Does P (.call c) s ⟨True, .lf false (.sc (.int k n)), s.H, s.nx⟩ := by
  refine .quiet rfl rfl fun w0 W0 cc a w hr hpre => ?_
  have hx' := (sc_of hx (ev_ok hr x)).1
  have hy' := (sc_of hy (ev_ok hr y)).1
  refine ⟨.int k n, fun o ho => ?_, .lf (.sc rfl)⟩
  unfold execOp
  rw [ho]
  cases b <;> simp [mm] at hn <;> subst hn
  · have h1 : (if q > p then q else p) = max p q := by omega
    simp [resolve, hc, ha, hx', hy', invoke, builtin, Builtin.max_, Builtin.max2, h1]
  · have h1 : (if q < p then q else p) = min p q := by omega
    simp [resolve, hc, ha, hx', hy', invoke, builtin, Builtin.min_, Builtin.min2, h1]

/-- Bytes as a string. -/
def byteOf? : List Leaf → Option Int
  | [.sc (.int .u8 n)] => some n
  | _ => none

def bytesOf? : List (List Leaf) → Option (List Int)
  | [] => some []
  | r :: q => match byteOf? r, bytesOf? q with
    | some n, some l => some (n :: l)
    | _, _ => none


theorem bytesOf_get : ∀ {rows : List (List Leaf)} {ns : List Int}, bytesOf? rows = some ns → ns.length = rows.length ∧ ∀ i (hi : i < rows.length) (hi' : i < ns.length), rows[i] = [.sc (.int .u8 (ns[i]))]
  | [], ns, h => by cases h; exact ⟨rfl, fun i hi => by simp at hi⟩
  | r :: q, ns, h => by
    unfold bytesOf? at h
    split at h
    · rename_i n l h1 h2
      cases h
      obtain ⟨g1, g2⟩ := bytesOf_get h2
      refine ⟨by simp [g1], fun i hi hi' => ?_⟩
      cases i with
      | zero =>
        unfold byteOf? at h1
        split at h1
        · cases h1; rfl
        · cases h1
      | succ i => exact g2 i (by simpa using hi) (by simpa using hi')
    · cases h

theorem run_bstr {w : World} {f : Value → ByteArray → Sem (ForInStep ByteArray)} (hf : ∀ n s, f (.int .u8 n) s = pure (.yield (s.push (UInt8.ofNat n.toNat)))) : ∀ (ns : List Int) (s0 : ByteArray) (vs : List Value), vs = ns.map (Value.int .u8 ·) →
    (forIn vs s0 f : Sem ByteArray).run P w = .ok (ns.foldl (fun s n => s.push (UInt8.ofNat n.toNat)) s0) w
  | [], s0, vs, h => by subst h; rfl
  | n :: r, s0, vs, h => by
    subst h
    simp only [List.map_cons, List.forIn_cons, Sem.run_bind, hf, Sem.run_pure, Result.andThen_ok, List.foldl_cons]
    exact run_bstr hf r _ _ rfl

theorem rep_sc {w : World} {S : CellSet} {u x : Value} (h : RepL w S u (.sc x)) : u = x := by cases h; rfl

theorem run_bytesToString {w : World} {a : Option Addr} {ns : List Int} {cap : Nat} {b o : Nat} (ha : ns.length ≠ 0 → a = some ⟨b, o, none⟩) (hc : ∀ j (hj : j < ns.length), w.cell? ⟨b, o + j, none⟩ = some (.int .u8 (ns[j]))) :
    (Conv.bytesToString (.slice a ns.length cap)).run P w = .ok (.string (bstr ns)) w := by
  have main : ∀ ad : Addr, (ns.length ≠ 0 → ad = ⟨b, o, none⟩) → (Conv.bytesToString (.slice (some ad) ns.length cap)).run P w = .ok (.string (bstr ns)) w := by
    intro ad had
    have hl : (loadCells ad ns.length).run P w = .ok ((List.range ns.length).map fun j => Value.int .u8 (ns.getD j 0)).toArray w := by
      refine run_loadCells w ad ns.length _ fun j hj => ?_
      rw [had (by omega), add_none, hc j hj]
      simp [hj]
    have hv : ((List.range ns.length).map fun j => Value.int .u8 (ns.getD j 0)) = ns.map (Value.int .u8 ·) := by
      apply List.ext_getElem
      · simp
      · intro i h1 h2
        have : i < ns.length := by simpa using h2
        simp [this]
    unfold Conv.bytesToString
    simp only [Sem.run_bind, hl, Result.andThen_ok]
    rw [hv]
    simp only [List.forIn_toArray]
    rw [run_bstr (fun _ _ => rfl) ns ByteArray.empty _ rfl]
    simp [bstr]
  cases a with
  | none =>
    have h0 : ns.length = 0 := by
      rcases Nat.eq_zero_or_pos ns.length with h | h
      · exact h
      · exact absurd (ha (by omega)) (by simp)
    have : ns = [] := List.eq_nil_of_length_eq_zero h0
    subst this
    rfl
  | some ad => exact main ad fun h => by simpa using ha h

theorem does_bytesStr {t u el : Nat} {e f ee : TE} {x : Operand} {tt : Bool} {rows : List (List Leaf)} {ns : List Int} (ht : OkT P t e) (hte : e.sh = .slice el) (hel : OkT P el ee) (hee : ee.sh = .int .u8) (hu : OkT P u f) (huf : f.sh = .str) (hx : srcRows (hp s.H) (ev s.T x) = some (tt, rows)) (hns : bytesOf? rows = some ns) :
    Does P (.convert t u x) s ⟨True, .lf false (.sc (.string (bstr ns))), s.H, s.nx⟩ := by
  refine .quiet rfl rfl fun w0 W0 c a w hr _ => ?_
  obtain ⟨g1, g2⟩ := bytesOf_get hns
  obtain ⟨ad, cap, cs, hv, hcap, hcs, hrd⟩ := src_ok hr.sit hx (es := 1) (fun r hr => by
    obtain ⟨i, hi, rfl⟩ := List.getElem_of_mem hr
    rw [g2 i hi (by omega)]
    rfl) (ev_ok hr x)
  refine ⟨_, fun o ho => ?_, .lf (.sc rfl)⟩
  unfold execOp
  rw [ho]
  have hrun : (Conv.bytesToString (.slice ad rows.length cap)).run P w = .ok (.string (bstr ns)) w := by
    rw [← g1]
    by_cases h0 : rows.length = 0
    · exact run_bytesToString (b := 0) (o := 0) (fun h => absurd (by omega) h) fun j hj => by omega
    · obtain ⟨b, oo, rfl, hcell⟩ := hrd h0
      refine run_bytesToString (b := b) (o := oo) (fun _ => rfl) fun j hj => ?_
      have hj' : j < rows.length := by omega
      obtain ⟨c1, _, c3⟩ := hcs
      have hjc : j < cs.length := by rw [c1]; omega
      rw [hcell j _ (List.getElem?_eq_getElem hjc)]
      have := c3 j 0 hj' (by rw [g2 j hj' hj]; simp) (cs[j]) (by simp [hjc])
      have hrow : (rows[j])[0]'(by rw [g2 j hj' hj]; simp) = .sc (.int .u8 (ns[j])) := by simp [g2 j hj' hj]
      rw [hrow] at this
      rw [rep_sc this]
  simp only [hv, convert, Sem.run_bind, run_und (ht.slice hte), run_und (hu.str huf), run_und (hel.int hee), Result.andThen_ok, hrun, Sem.run_pure]

end
end Go.TL
