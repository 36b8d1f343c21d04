import Derived.Laws.Strings
import Derived.Test.YtjkeoippmlmfbaaGreatDoorTlOpE
import Derived.Test.YtjkeoippmlmfbaaGreatDoorTlStep
import Derived.Test.YtjkeoippmlmfbaaGreatDoorG19PlTrim
import Derived.Shelf.SlSortCmp.NoneTotal
set_option linter.unusedSimpArgs false
set_option linter.unusedVariables false
namespace Go.Proofs
open Go
def cmpT (x y : ByteArray) : Int := if Op.bytesLess x.toList y.toList = true then -1 else if (!(Op.bytesLess x.toList y.toList || x.toList == y.toList)) = true then 1 else 0
end Go.Proofs
namespace Go.TL
open Go Go.Shelf Go.Proofs Go.Sort

variable {P : Program} {ρ : Go.Shelf.Ren} {α : Type} [Inhabited α]

theorem keep_sort {w : World} {blk off k n : Nat} {enc : α → List Value} {d' : Array α} {os : Array Obj} (hb : blk < w.heap.size) (hpos : 0 < d'.size * k) :
    Keep (fun x j => x = blk ∧ off ≤ j ∧ j < off + d'.size * k) w (sortWorldK enc k w blk off n d' os) where
  os := rfl
  tape := rfl
  output := rfl
  size := by
    show w.heap.size ≤ (grow (putRowK enc k (Sort.ahead w n) blk off d') os).heap.size
    rw [size_grow]
    have : (putRowK enc k (Sort.ahead w n) blk off d').heap.size = w.heap.size := by unfold putRowK; rw [Sort.size_putRow]; rfl
    omega
  cell b j hlt hd := by
    have hs : (putRowK enc k (Sort.ahead w n) blk off d').heap.size = w.heap.size := by unfold putRowK; rw [Sort.size_putRow]; rfl
    show (grow (putRowK enc k (Sort.ahead w n) blk off d') os).cell? ⟨b,j,none⟩ = _
    rw [cell?_grow _ _ _ (by rw [hs]; exact hlt)]
    unfold putRowK
    rw [Sort.cell?_putRow_other _ _ _ _ _ _ (by rw [size_flatK]; simp only; omega),Sort.cell?_ahead]
  frz b j hlt := by
    have hs : (putRowK enc k (Sort.ahead w n) blk off d').heap.size = w.heap.size := by unfold putRowK; rw [Sort.size_putRow]; rfl
    show (grow (putRowK enc k (Sort.ahead w n) blk off d') os).frozen? ⟨b,j,none⟩ = _
    rw [frozen?_grow _ _ _ (by rw [hs]; exact hlt)]
    unfold putRowK
    rw [Sort.frozen?_putRow]
    rfl
  blk b hlt hd := by
    have hs : (putRowK enc k (Sort.ahead w n) blk off d').heap.size = w.heap.size := by unfold putRowK; rw [Sort.size_putRow]; rfl
    have hne : blk ≠ b := fun e => hd off ⟨e.symm,Nat.le_refl _,by omega⟩
    show (grow (putRowK enc k (Sort.ahead w n) blk off d') os).heap[b]? = _
    rw [heap_grow_old _ _ (by rw [hs]; exact hlt)]
    unfold putRowK putRow mapBlock
    simp only [Array.getElem?_modify,if_neg hne]
    rfl
  dr := Nat.le_add_right _ _

theorem sc_val {w : World} {S : CellSet} {v u : Value} (h : RepL w S v (.sc u)) : v = u := by cases h; rfl

theorem own_cells {w : World} {c : Ctx} {L : Loc} {t : Bool} {k : Nat} {enc : α → List Value} {E : α → List Leaf} (hE : ∀ x,E x = (enc x).map Leaf.sc) (hk : ∀ x,(enc x).length = k) {l : List α} (h : Holds w c L (.arr t k (l.map E))) (hk0 : 0 < k) :
    HoldsK enc k w L.b L.base l.toArray := by
  obtain ⟨g1,g0,g2,g3⟩ := h
  rw [List.length_map] at g1
  intro j hj
  rw [size_flatK,List.size_toArray] at hj
  have hi : j / k < l.length := Nat.div_lt_of_lt_mul (by rw [Nat.mul_comm]; exact hj)
  have hm : j % k < k := Nat.mod_lt _ hk0
  obtain ⟨u,hu,hf⟩ := g2 j (by omega)
  have he : j / k * k + j % k = j := by rw [Nat.mul_comm]; exact Nat.div_add_mod j k
  have h3 := g3 (j / k) (j % k) (by simpa using hi) (by simp [hE,hk,hm]) u (by rw [he]; exact hu)
  have hx : l.toArray[j / k]! = l[j / k] := by simp [hi]
  refine ⟨?_,hf⟩
  rw [hu,get_flatK _ _ _ _ (by simpa using hj),hx]
  simp only [List.getElem_map,hE] at h3
  rw [sc_val h3]
  simp [hk,hm]

theorem cells_own {w : World} {c : Ctx} {L : Loc} {t : Bool} {k : Nat} {enc : α → List Value} {E : α → List Leaf} (hE : ∀ x,E x = (enc x).map Leaf.sc) (hk : ∀ x,(enc x).length = k) (hs : ∀ x,∀ v ∈ enc x,scal v = true) (hk0 : 0 < k) {d : Array α} (h : HoldsK enc k w L.b L.base d)
    (hn : d.size * k ≤ L.n) (hall : ∀ j,j < L.n → ∃ v,w.cell? ⟨L.b,L.base + j,none⟩ = some v ∧ w.frozen? ⟨L.b,L.base + j,none⟩ = false) : Holds w c L (.arr t k (d.toList.map E)) := by
  refine ⟨by simpa using hn,fun r hr => ?_,hall,fun i j hi hj v hv => ?_⟩
  · obtain ⟨a,_,rfl⟩ := List.mem_map.1 hr
    rw [hE]; simp [hk]
  · have hi' : i < d.size := by simpa using hi
    have hj' : j < k := by simpa [hE,hk] using hj
    have hlt := row_lt (n := d.size) hi' hj'
    have := (h (i * k + j) (by rw [size_flatK]; exact hlt)).1
    rw [this,get_flatK _ _ _ _ hlt] at hv
    have e1 : (i * k + j) / k = i := by rw [Nat.mul_comm,Nat.mul_add_div hk0,Nat.div_eq_of_lt hj',Nat.add_zero]
    have e2 : (i * k + j) % k = j := by rw [Nat.mul_comm,Nat.mul_add_mod,Nat.mod_eq_of_lt hj']
    rw [e1,e2] at hv
    have hv' : v = (enc d[i])[j]'(by rw [hk]; exact hj') := by
      have := (Option.some.inj hv).symm
      rw [this]
      simp [hi',hk,hj']
    have hE' : (((d.toList.map E)[i])[j]) = Leaf.sc ((enc d[i])[j]'(by rw [hk]; exact hj')) := by simp [hE]
    show RepL w _ v (((d.toList.map E)[i])[j])
    rw [hE',hv']
    exact .sc (hs _ _ (List.getElem_mem _))

/-- THE CONTRACT. -/
theorem fn_sort (L : SlLaysF0.n6 P ρ) (hent : Ent P (ρ.f 6)) {k : Nat} (hk0 : 0 < k) (aE : ∀ w,(isAgg (ρ.t 24)).run P w = .ok true w) (zE : ∀ w,(Go.sizeOf (ρ.t 24)).run P w = .ok k w) {enc : α → List Value} {E : α → List Leaf} (hE : ∀ x,E x = (enc x).map Leaf.sc) (hk : ∀ x,(enc x).length = k) (hs : ∀ x,∀ v ∈ enc x,scal v = true)
    {cf : α → α → Int} (hO : SWO (ltOf cf)) {g : Nat} (eg : ∀ args w,(callFunc g args).run P w = .ok (.enter g args) w)
    (hcmp : ∀ (x y : α) (W : World),Calls P g #[.agg (enc x).toArray,.agg (enc y).toArray] W fun e w' => e = .returned (.int .i64 (cf x y)) ∧ ∃ q os',w' = grow (W.drewN q) os')
    {t0 t1 x0 : Bool} {m0 : Nat} {l R : List α} (hlen : l.length < 4611686018427387904) (hR : ∀ d' : Array α,PermIn 0 l.toArray.size l.toArray d' → SortedIn (ltOf cf) 0 l.toArray.size d' → d'.toList = R) :
    Fn P (ρ.f 6) [.os 0 k 0 l.length m0 x0,.fn g []] [(0,some (false,.arr t0 k (l.map E)))] 1 (.tu []) [(0,some (false,.arr t1 k (R.map E)))] 1 := by
  refine ⟨hent,fun w F loc vs hsit hvs hv => ?_⟩
  obtain ⟨u0,e0,c0⟩ := hv 0 (by simp)
  obtain ⟨u1,e1,c1⟩ := hv 1 (by simp)
  have hvs' : vs = #[u0,u1] := by
    simp only [List.length_cons,List.length_nil] at hvs
    refine Array.ext (by simpa using hvs) fun i h1 h2 => ?_
    have hi : i = 0 ∨ i = 1 := by omega
    rcases hi with rfl | rfl
    · rw [Array.getElem?_eq_getElem h1] at e0; cases e0; rfl
    · rw [Array.getElem?_eq_getElem h1] at e1; cases e1; rfl
  subst hvs'
  have hH0 : Holds w (ctx0 F loc 1) (loc 0) (.arr t0 k (l.map E)) := (hsit.own 0 (_,_) (by rfl)).2
  have hf : u1 = .func (.func g) #[] #[] := by
    cases c1 with
    | fn cs hn hv h =>
      have : ∀ vs : Array Value,vs.size = 0 → vs = #[] := fun vs h => Array.eq_empty_of_size_eq_zero h
      rw [this _ hn]
  subst hf
  cases c0 with
  | os hid0 hl0 hm0 hx0 ha0 hn0 =>
    rename_i cap0 a0
    simp only [Nat.zero_mul,Nat.zero_add] at hn0
    have hn0 : cap0 * k ≤ (loc 0).n := hn0
    have hHK := own_cells (l := l) hE hk hH0 hk0
    have key : Calls P (ρ.f 6) #[.slice a0 l.length cap0,.func (.func g) #[] #[]] w fun e w' => e = .returned (.tuple #[]) ∧
        Sit w (frm (rng loc (hp [(0,some (false,Ob.arr t0 k (l.map E)))]))) (ctx0 F loc 1) (hp [(0,some (false,.arr t1 k (R.map E)))]) w' := by
      have hpe : hp [(0,some (false,Ob.arr t1 k (R.map E)))] = upd (hp [(0,some (false,Ob.arr t0 k (l.map E)))]) 0 (some (false,.arr t1 k (R.map E))) := by
        funext id
        rw [hp_cons,hp_cons]
        unfold upd
        by_cases q0 : id = 0
        · subst q0; rfl
        · simp only [q0,if_false]
      rcases Nat.eq_zero_or_pos l.length with h0 | h0
      · have hl : l = [] := List.length_eq_zero_iff.1 h0
        subst hl
        have hRn : [] = R := by
          refine hR #[] ⟨rfl,fun _ _ => rfl,by simp⟩ fun i j _ _ h => by simp at h
        refine (AnyF.slices_SortFunc_none L a0 cap0 _ w).mono fun e w' ⟨he,hw⟩ => ⟨he,?_⟩
        rw [hw,hpe,← hRn]
        have hh : Holds w (ctx0 F loc 1) (loc 0) (.arr t1 k (([] : List α).map E)) := ⟨by simp,fun r hr => by simp at hr,hH0.there,fun i j hi => by simp at hi⟩
        exact (hsit.upd (Keep.refl (fun _ _ => False) w) (id := 0) (fr := false) (o := .arr t0 k (([] : List α).map E)) rfl (fun _ _ _ h => h.elim) hh).1
      · have ha0' := ha0.resolve_left (by omega)
        simp only [Nat.zero_mul,Nat.add_zero] at ha0'
        have ha0' : a0 = some ⟨(loc 0).b,(loc 0).base,none⟩ := ha0'
        subst ha0'
        have hlk : 0 < l.length * k := Nat.mul_pos h0 hk0
        have hck : l.length * k ≤ cap0 * k := Nat.mul_le_mul_right k hl0
        have hblk : (loc 0).b < w.heap.size := by
          obtain ⟨u,hu,_⟩ := hH0.there 0 (by omega)
          exact cell_lt hu
        have := AnyQ.slices_SortFunc L k aE zE enc hk (fun x v hv => rep_one (.sc (hs x v hv) : RepL w (fun _ _ => False) v (.sc v))) cf hO g #[] (loc 0).b (loc 0).base cap0 l.toArray w eg (fun m os dk _ x y => hcmp x y _) hHK hblk (by simpa using hlen)
        rw [List.size_toArray] at this
        refine this.mono fun e w' ⟨he,d',n,os,hp',hs',hw⟩ => ⟨he,?_⟩
        have hRd := hR d' (by rw [List.size_toArray]; exact hp') (by rw [List.size_toArray]; exact hs')
        have hsz : d'.size = l.length := by have := hp'.1; simpa using this
        have hkeep := keep_sort (enc := enc) (k := k) (w := w) (blk := (loc 0).b) (off := (loc 0).base) (n := n) (d' := d') (os := os) hblk (by rw [hsz]; exact hlk)
        rw [← hw] at hkeep
        have hnew : HoldsK enc k w' (loc 0).b (loc 0).base d' := by rw [hw]; exact holdsK_sortWorldK_c enc k w _ _ l.toArray d' n os hHK hblk (by simpa using hsz)
        rw [hpe,← hRd]
        refine (hsit.upd hkeep (fr := false) (o := .arr t0 k (l.map E)) rfl (fun b j _ h => .inl ⟨h.1,by omega⟩) ?_).1
        refine cells_own hE hk hs hk0 hnew (by rw [hsz]; exact (by omega : l.length * k ≤ (loc 0).n)) fun j hj => ?_
        obtain ⟨u,hu,hfz⟩ := hH0.there j hj
        have hlt := cell_lt hu
        by_cases hjR : j < l.length * k
        · have := hnew j (by rw [size_flatK,hsz]; exact hjR)
          exact ⟨_,this⟩
        · exact ⟨u,(hkeep.cell _ _ hlt (fun h => by have h3 : (loc 0).base + j < (loc 0).base + d'.size * k := h.2.2; rw [hsz] at h3; omega)).trans hu,(hkeep.frz _ _ hlt).trans hfz⟩
    refine key.mono fun e w' ⟨he,hsit'⟩ => ⟨_,_,he,.refl _,rfl,hsit',.tu (fun _ => default) rfl (fun j hj => by simp at hj) (fun j hj => by simp at hj)⟩

theorem swo_text {α : Type} (f : α → ByteArray) : SWO fun x y : α => sLt (f x) (f y) where
  irrefl _ := bL_irr _
  trans _ _ _ := bL_trans _ _ _
  ntrans _ _ _ := bL_ntrans _ _ _

/-- What the library's sort leaves is the one sorted row. -/
theorem sort_one {lt : α → α → Bool} (hO : SWO lt) {l : List α} (ha : aptO lt l = true) {d' : Array α} (hp : PermIn 0 l.toArray.size l.toArray d') (hs : SortedIn lt 0 l.toArray.size d') : d'.toList = sortO lt l := by
  have hsz : d'.size = l.length := by have := hp.1; simpa using this
  have hperm : d'.toList.Perm l := by
    have := hp.2.2
    have e1 : d'.extract 0 l.length = d' := by rw [← hsz]; simp
    have e2 : l.toArray.extract 0 l.length = l.toArray := by simp
    rw [List.size_toArray,e1,e2] at this
    exact this
  refine asc_one hO.irrefl hO.trans (hperm.trans (sortO_perm lt l).symm) ?_ (sortO_asc hO.trans ha)
  have hap : d'.toList.Pairwise fun x y => lt x y = true ∨ lt y x = true := (hperm.pairwise_iff fun h => h.symm).2 (aptO_iff.1 ha)
  rw [List.pairwise_iff_getElem] at hap ⊢
  intro i j hi hj hij
  have h1 := hap i j hi hj hij
  have hi' : i < d'.size := by simpa using hi
  have hj' : j < d'.size := by simpa using hj
  have h2 := hs i j (Nat.zero_le _) hij (by rw [List.size_toArray,← hsz]; exact hj')
  have e1 : d'[i]! = d'.toList[i] := by simp [hi']
  have e2 : d'[j]! = d'.toList[j] := by simp [hj']
  rw [e1,e2] at h2
  rcases h1 with h1 | h1
  · exact h1
  · rw [h2] at h1; cases h1

theorem lt_names {β : Type} (f : β → ByteArray) : ltOf (fun x y => cmpT (f x) (f y)) = fun x y => sLt (f x) (f y) := by
  funext x y
  show decide (cmpT (f x) (f y) < 0) = sLt (f x) (f y)
  unfold cmpT
  rw [sLt_]
  cases sLt (f x) (f y)
  · simp only [Bool.false_eq_true,if_false,Bool.false_or]
    split <;> rfl
  · rfl

/-- Rows sorted by a name that parts them. -/
theorem sort_names (L : SlLaysF0.n6 P ρ) (hent : Ent P (ρ.f 6)) (aE : ∀ w,(isAgg (ρ.t 24)).run P w = .ok true w) (zE : ∀ w,(Go.sizeOf (ρ.t 24)).run P w = .ok 3 w) (enc : α → List Value) (f : α → ByteArray) {E : α → List Leaf} (hE : ∀ x,E x = (enc x).map Leaf.sc) (hk : ∀ x,(enc x).length = 3) (hs : ∀ x,∀ v ∈ enc x,scal v = true)
    {g : Nat} (eg : ∀ args w,(callFunc g args).run P w = .ok (.enter g args) w)
    (hcmp : ∀ (x y : α) (W : World),Calls P g #[.agg (enc x).toArray,.agg (enc y).toArray] W fun e w' => e = .returned (.int .i64 (cmpT (f x) (f y))) ∧ ∃ q os',w' = grow (W.drewN q) os')
    {t0 x0 : Bool} {m0 : Nat} {l : List α} (hlen : l.length < 4611686018427387904) (ha : aptO (fun x y => sLt (f x) (f y)) l = true) :
    Fn P (ρ.f 6) [.os 0 3 0 l.length m0 x0,.fn g []] [(0,some (false,.arr t0 3 (l.map E)))] 1 (.tu []) [(0,some (false,.arr false 3 ((sortO (fun x y => sLt (f x) (f y)) l).map E)))] 1 :=
  fn_sort L hent (by decide) aE zE hE hk hs (cf := fun x y => cmpT (f x) (f y)) (by rw [lt_names]; exact swo_text f) eg hcmp hlen fun d' hp hs' => sort_one (swo_text f) ha hp (by rw [← lt_names]; exact hs')
end Go.TL
