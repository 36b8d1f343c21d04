import Derived.Test.YteonagfnhdlfcaaGreatDoorG39TlDelCr6zD
import Derived.Test.YteonagfnhdlfcaaGreatDoorTlStep
set_option linter.unusedSimpArgs false
set_option linter.unusedVariables false
namespace Go.TL
open Go Go.Shelf Go.Proofs Go.RowKit
variable {β : Type}
theorem sit_none0 {w : World} {F : CellSet} {loc : Nat → Loc} (hF : ∀ b k,F b k → b < w.heap.size) : Sit w (frm (rng loc (hp []))) (ctx0 F loc 0) (hp []) w where
 keep := Keep.refl _ w
 own id o h := by cases h
 dis i j oi oj h := by cases h
 sep id o h := by cases h
 old b k h := ⟨hF b k h,fun ⟨_,_,e,_⟩ => by cases e⟩
 new b k h := h.elim
 res b k v h := by cases h
 pl id o h := by cases h
 mo id o h := by cases h
theorem keep_row {w w' : World} {blk off n : Nat} {d : Array Value} (h : Row w blk off n d w') : Keep (fun x k => x = blk ∧ off ≤ k ∧ k < off + n ∨ (n = 0 ∧ x = blk)) w w' where
 os := h.os
 tape := h.tape
 output := h.output
 size := h.size
 cell b k hb hd := by
  by_cases e : b = blk
  ·subst e
   exact h.cell k (by
    rcases Nat.lt_or_ge k off with h1 | h1
    ·exact .inl h1
    ·refine .inr (Nat.le_of_not_lt fun h2 => hd (.inl ⟨rfl,h1,h2⟩)))
  ·unfold World.cell?; rw [h.block b hb e]
 frz b k hb := by
  by_cases e : b = blk
  ·subst e; exact h.frz k
  ·unfold World.frozen?; rw [h.block b hb e]
 blk b hb hd := h.block b hb fun e => by
  rcases Nat.eq_zero_or_pos n with h0 | h0
  ·exact hd off (.inr ⟨h0,e⟩)
  ·exact hd off (.inl ⟨e,Nat.le_refl _,by omega⟩)
 dr := h.dr
theorem repD_inv {w : World} {B : Nat → Prop} {ts : List DSh} {v : Value} {x : Leaf} (h : RepD w B (.sl ts) v x) : ∃ (rows : List (List Leaf)) (a : Option Addr) (cap : Nat),v = .slice a rows.length cap ∧ x = .sl rows ∧ rows.length ≤ cap ∧ (cap = 0 ∨ ∃ b base,a = some ⟨b,base,none⟩ ∧ B b) := by
 cases h with
 | sl cs B' hcap ha hn hn0 hl hc hv hB hd hr => exact ⟨_,_,_,rfl,rfl,hcap.1,ha.imp id fun h => ⟨_,_,h.1,h.2⟩⟩
theorem repD_same {w : World} {B B2 : Nat → Prop} {ts : List DSh} {v : Value} {x y : Leaf} (h1 : RepD w B (.sl ts) v x) (h2 : RepD w B2 (.sl ts) v y) (hd : ∀ b,B b → B2 b → False) : x = y := by
 obtain ⟨r1,a1,c1,e1,rfl,l1,q1⟩ := repD_inv h1
 obtain ⟨r2,a2,c2,e2,rfl,l2,q2⟩ := repD_inv h2
 rw [e1] at e2
 simp only [Value.slice.injEq] at e2
 obtain ⟨ea,el,ec⟩ := e2
 have h0 : r1 = [] := by
  rcases q1 with q1 | ⟨b,o,g1,g2⟩
  ·exact List.eq_nil_of_length_eq_zero (by omega)
  ·rcases q2 with q2 | ⟨b',o',g1',g2'⟩
   ·exact List.eq_nil_of_length_eq_zero (by omega)
   ·rw [g1,g1'] at ea
    simp only [Option.some.injEq,Addr.mk.injEq] at ea
    exact (hd b g2 (by rw [ea.1]; exact g2')).elim
 have h0' : r2 = [] := List.eq_nil_of_length_eq_zero (by rw [← el,h0]; rfl)
 rw [h0,h0']
theorem cv_pb {w : World} {c : Ctx} {id off : Nat} {v : Value} (h : Cv w c (.pb id off) v) : v = .pointer (some ⟨(c.loc id).b,(c.loc id).base + off,none⟩) := by
 cases h; rfl
theorem fn_delD {ts : List DSh} {E : β → List Leaf} {X : β → Leaf} (hE : ∀ x,E x = [X x]) {p : β → Bool} (hpX : ∀ x y,X x = X y → p x = p y) {g : Nat} (eg : ∀ args w,(callFunc g args).run Tryz.prog w = .ok (.enter g args) w) {l : List β} {Y : Leaf} {fb tb : Bool}
  (hp : ∀ x ∈ l,∃ nx,Fn Tryz.prog g [.ag [.lf true (X x)],.ra true [Y]] [] 0 (.lf false (.sc (.bool (p x)))) [] nx)
  {x0 : Bool} {m0 : Nat} (hlen : l.length ≤ 9223372036854775807) :
  Fn Tryz.prog 217 [.os 0 1 0 l.length m0 x0,.fn g [.pb 1 0]] [(0,some (false,.deep [.sl ts] (l.map E))),(1,some (fb,.box [.lf tb Y]))] 2 (.os 0 1 0 (l.filter fun x => !p x).length (l.filter fun x => !p x).length false)
   [(0,some (false,.deep [.sl ts] ((l.filter fun x => !p x).map E))),(1,some (fb,.box [.lf tb Y]))] 2 := by
 refine ⟨Ent.of Tryz.func217 rfl (by simp [Tryz.f217]),fun w F loc vs hsit hvs hv => ?_⟩
 obtain ⟨u0,e0,c0⟩ := hv 0 (by simp)
 obtain ⟨u1,e1,c1⟩ := hv 1 (by simp)
 have hvs' : vs = #[u0,u1] := by
  simp only [List.length_cons,List.length_nil] at hvs
  refine Array.ext (by simpa using hvs) fun i h1 h2 => ?_
  have hi : i = 0 ∨ i = 1 := by omega
  rcases hi with rfl | rfl
  ·rw [Array.getElem?_eq_getElem h1] at e0; cases e0; rfl
  ·rw [Array.getElem?_eq_getElem h1] at e1; cases e1; rfl
 subst hvs'
 have hH0 : Holds w (ctx0 F loc 2) (loc 0) (.deep [.sl ts] (l.map E)) := (hsit.own 0 (_,_) (by rfl)).2
 have hH1 : Holds w (ctx0 F loc 2) (loc 1) (.box [.lf tb Y]) := (hsit.own 1 (_,_) (by rfl)).2
 have hf : u1 = .func (.func g) #[] #[.pointer (some ⟨(loc 1).b,(loc 1).base + 0,none⟩)] := by
  cases c1 with
  | fn cs hn hv2 h =>
   rename_i vs2
   have h2 := h 0 (by simp)
   have h3 := hv2 0 (by simp)
   have h1 : vs2.size = 1 := by simpa using hn
   rw [cv_pb h2] at h3
   congr 1
   refine Array.ext (by simpa using h1) fun i g1 g2 => ?_
   have : i = 0 := by omega
   subst this
   rw [Array.getElem?_eq_getElem g1] at h3
   exact Option.some.inj h3
 subst hf
 cases c0 with
 | os hid0 hl0 hm0 hx0 ha0 hn0 =>
  rename_i cap0 a0
  rcases Nat.eq_zero_or_pos l.length with hz | h0
  ·have hl : l = [] := List.length_eq_zero_iff.1 hz
   subst hl
   exact (Tryz.del217_empty a0 cap0 g _ w).mono fun e w' ⟨he,hw⟩ => ⟨_,_,he,.refl _,rfl,by rw [hw]; exact hsit,.os hid0 hl0 ⟨Nat.zero_le _,hm0.2⟩ (fun h => by cases h) ha0 hn0⟩
  have ha0' := ha0.resolve_left (by omega)
  simp only [Nat.zero_mul,Nat.add_zero] at ha0'
  have ha0' : a0 = some ⟨(loc 0).b,(loc 0).base,none⟩ := ha0'
  subst ha0'
  obtain ⟨g1,g0,g2,B,b1,b2,b3⟩ := id hH0
  simp only [List.length_map,List.length_cons,List.length_nil,Nat.zero_add,Nat.mul_one] at g1
  have hcell : ∀ i : Fin l.length,∃ v,w.cell? ⟨(loc 0).b,(loc 0).base + i.1,none⟩ = some v ∧ w.frozen? ⟨(loc 0).b,(loc 0).base + i.1,none⟩ = false := fun i => g2 i.1 (Nat.lt_of_lt_of_le i.2 g1)
  obtain ⟨hd,hhd⟩ : ∃ hd : Fin l.length → Value,∀ i,w.cell? ⟨(loc 0).b,(loc 0).base + i.1,none⟩ = some (hd i) ∧ w.frozen? ⟨(loc 0).b,(loc 0).base + i.1,none⟩ = false := ⟨fun i => (hcell i).choose,fun i => (hcell i).choose_spec⟩
  have hrep : ∀ i : Fin l.length,RepD w (B i.1 0) (.sl ts) (hd i) (X l[i.1]) := fun i => by
   have := b3 i.1 0 (by simp) (by simp [hE]) (by simp) (hd i) (by simpa using (hhd i).1)
   simpa [hE] using this
  have hblk : (loc 0).b < w.heap.size := cell_lt (hhd ⟨0,h0⟩).1
  have hBlt : ∀ i x,B i 0 x → x < w.heap.size := fun i x h => (hsit.mo 0 (_,_) (by rfl) x (b1 i 0 x h).1).1
  have hds : (Array.ofFn hd).size = l.length := by simp
  have hdj : ∀ j (hj : j < l.length),(Array.ofFn hd)[j]! = hd ⟨j,hj⟩ := fun j hj => by rw [getElem!_pos _ j (by rw [hds]; exact hj)]; simp
  have hsame : ∀ i j : Fin l.length,hd i = hd j → p l[i.1] = p l[j.1] := fun i j e => by
   by_cases hij : i = j
   ·rw [hij]
   ·refine hpX _ _ (repD_same (hrep i) (by rw [e]; exact hrep j) fun b hb1 hb2 => hij (Fin.ext (b2 _ _ _ _ b hb1 hb2).1))
  obtain ⟨p',hp'⟩ : ∃ p' : Value → Bool,∀ i,p' (hd i) = p l[i.1] := by
   refine ⟨fun v => @decide (∃ i,hd i = v ∧ p l[i.1] = true) (Classical.propDecidable _),fun i => ?_⟩
   cases hpi : p l[i.1]
   ·simp only [decide_eq_false_iff_not]
    rintro ⟨j,e,h⟩
    rw [hsame j i e,hpi] at h; cases h
   ·simp only [decide_eq_true_eq]
    exact ⟨i,rfl,hpi⟩
  have hrow : Row w (loc 0).b (loc 0).base (Array.ofFn hd).size (Array.ofFn hd) w := ⟨rfl,rfl,rfl,Nat.le_refl _,fun _ _ _ => rfl,fun _ _ => rfl,fun _ => rfl,rfl,fun j hj => by
   rw [hds] at hj
   rw [(hhd ⟨j,hj⟩).1,hdj j hj],Nat.le_refl _⟩
  obtain ⟨yv,hy1,hy2⟩ := hH1.there 0 (Nat.lt_of_lt_of_le (by simp) hH1.1)
  have hyr : RepL w (fun b k => F b k) yv Y := by
   have := hH1.2.2 0 (by simp) yv hy1
   simp only [List.getElem_cons_zero] at this
   cases this with
   | lf h => exact h.mono (fun b k h => by
     rcases h with h | ⟨_,h⟩
     ·exact h.elim
     ·exact h) (fun _ _ _ => rfl)
  have hne : (loc 0).b ≠ (loc 1).b := fun e => by
   have h2 := hsit.dis 0 1 (_,_) (_,_) (by rfl) (by rfl) (by omega) (loc 0).b 0 0 (.inl ⟨rfl,by show 0 < (loc 0).n; omega⟩)
   exact h2 (.inl ⟨e,by show 0 < (loc 1).n; have := hH1.1; simp at this; omega⟩)
  have hpred : ∀ (W : World) (dk : Array Value) (u : Value),Row w (loc 0).b (loc 0).base (Array.ofFn hd).size dk W → (∃ j,j < (Array.ofFn hd).size ∧ (Array.ofFn hd)[j]! = u) →
    Calls Tryz.prog g (#[.agg #[u]] ++ #[.pointer (some ⟨(loc 1).b,(loc 1).base + 0,none⟩)]) W fun e w' => e = .returned (.bool (p' u)) ∧ Below W.heap.size W w' ∧ W.drawn ≤ w'.drawn := by
   intro W dk u hR ⟨j,hj,hu⟩
   rw [hds] at hj
   rw [hdj j hj] at hu
   subst hu
   have hK := keep_row hR
   have hnb : ∀ b k,b ≠ (loc 0).b → b < w.heap.size → W.cell? ⟨b,k,none⟩ = w.cell? ⟨b,k,none⟩ := fun b k hb hlt => hK.cell b k hlt fun h => by
    rcases h with h | h
    ·exact hb h.1
    ·exact hb h.2
   have hFb : ∀ b k,F b k → b ≠ (loc 0).b ∧ b < w.heap.size := fun b k h => ⟨fun e => (hsit.sep 0 (_,_) (by rfl) (loc 0).b 0 (.inl ⟨rfl,by show 0 < (loc 0).n; omega⟩)).1 k (by rw [← e]; exact h),(hsit.old b k h).1⟩
   obtain ⟨nx,_,hfn⟩ := hp l[j] (List.getElem_mem _)
   have hcall := hfn W (fun b k => F b k ∨ B j 0 b ∨ (b = (loc 1).b ∧ k = (loc 1).base)) loc #[.agg #[hd ⟨j,hj⟩],.pointer (some ⟨(loc 1).b,(loc 1).base + 0,none⟩)] (sit_none0 fun b k h => by
    rcases h with h | h | h
    ·exact Nat.lt_of_lt_of_le (hFb b k h).2 hR.size
    ·exact Nat.lt_of_lt_of_le (hBlt _ _ h) hR.size
    ·rw [h.1]; exact Nat.lt_of_lt_of_le (cell_lt hy1) hR.size) (by simp) (fun t ht => by
    have ht2 : t = 0 ∨ t = 1 := by simp at ht; omega
    rcases ht2 with e | e
    ·subst e
     refine ⟨_,rfl,.ag (fun _ => hd ⟨j,hj⟩) (by simp) (fun q hq => by
      have : q = 0 := by simpa using hq
      subst this
      rfl) fun q hq => ?_⟩
     have : q = 0 := by simpa using hq
     subst this
     exact .lf (RepD.rep ((hrep ⟨j,hj⟩).mono (fun _ h => h) fun b k hb => hnb b k (b1 _ _ _ hb).2 (hBlt _ _ hb)) fun b k hb => .inr ⟨rfl,.inr (.inl hb)⟩)
    ·subst e
     refine ⟨_,rfl,.ra (fun _ => yv) (fun q hq => ?_) fun q hq => ?_⟩
     ·have : q = 0 := by simpa using hq
      subst this
      exact ⟨.inr ⟨rfl,.inr (.inr ⟨rfl,rfl⟩)⟩,(hnb _ _ (Ne.symm hne) (cell_lt hy1)).trans hy1⟩
     ·have : q = 0 := by simpa using hq
      subst this
      exact hyr.mono (fun b k h => .inr ⟨rfl,.inl h⟩) fun b k h => hnb b k (hFb b k h).1 (hFb b k h).2)
   refine hcall.mono fun e w' ⟨v,c',he,hle,hnx,hs,hcr⟩ => ⟨?_,(hs.keep.mono fun x y _ ⟨_,_,e,_⟩ => by cases e).below,hs.keep.dr⟩
   rw [he,hp']
   cases hcr with | lf h => cases h; rfl
  have hsl : ∀ j,j < (Array.ofFn hd).size → ∃ a n c,(Array.ofFn hd)[j]! = .slice a n c := fun j hj => by
   rw [hds] at hj
   obtain ⟨r,a,c,e,_⟩ := repD_inv (hrep ⟨j,hj⟩)
   exact ⟨a,_,c,by rw [hdj j hj,e]⟩
  obtain ⟨idx,hidx⟩ : ∃ idx,idx = (List.finRange l.length).filter fun i => !p l[i.1] := ⟨_,rfl⟩
  have hnd : idx.Nodup := by rw [hidx]; exact (List.nodup_finRange _).filter _
  have hf1 : ((Array.ofFn hd).toList.filter fun x => !p' x) = idx.map hd := by
   have e1 : (Array.ofFn hd).toList = (List.finRange l.length).map hd := List.ext_getElem (by simp) fun i h1 h2 => by simp
   rw [e1,List.filter_map,hidx]
   congr 1
   refine List.filter_congr fun i _ => ?_
   show (!p' (hd i)) = _
   rw [hp']
  have hf2 : (l.filter fun x => !p x) = idx.map fun i => l[i.1] := by
   have e1 : l = (List.finRange l.length).map fun i => l[i.1] := List.ext_getElem (by simp) fun i h1 h2 => by simp
   conv => lhs; rw [e1]
   rw [List.filter_map,hidx]
   rfl
  have hle : idx.length ≤ l.length := by
   rw [hidx]
   exact Nat.le_trans (List.length_filter_le _ _) (by simp)
  have hres := Tryz.delAll (loc 0).b (loc 0).base cap0 g #[.pointer (some ⟨(loc 1).b,(loc 1).base + 0,none⟩)] (Array.ofFn hd) p' w eg (by rw [hds]; exact hlen) (by rw [hds]; exact hl0) hblk hrow (fun j hj => by rw [hds] at hj; exact (hhd ⟨j,hj⟩).2) hsl hpred
  rw [hf1,hds,List.length_map] at hres
  rw [hf2,List.length_map]
  refine hres.mono fun e w' ⟨he,hR⟩ => ⟨_,_,he,.refl _,rfl,?_,.os hid0 (Nat.le_trans hle hl0) ⟨Nat.le_trans hle hl0,hm0.2⟩ (fun h => by cases h) (.inr (by simp only [Nat.zero_mul,Nat.add_zero]; rfl)) hn0⟩
  have hpe : Go.TL.hp [(0,some (false,Ob.deep [.sl ts] ((idx.map fun i => l[i.1]).map E))),(1,some (fb,.box [.lf tb Y]))] = upd (Go.TL.hp [(0,some (false,Ob.deep [.sl ts] (l.map E))),(1,some (fb,.box [.lf tb Y]))]) 0 (some (false,.deep [.sl ts] ((idx.map fun i => l[i.1]).map E))) := by
   funext id
   rw [hp_cons,hp_cons,hp_cons,hp_cons]
   unfold upd
   by_cases q0 : id = 0
   ·subst q0; rfl
   ·simp only [q0,if_false]
  rw [hpe]
  have hK := keep_row hR
  refine (hsit.upd hK (fr := false) (o := .deep [.sl ts] (l.map E)) rfl (fun b j _ h => .inl ⟨by rcases h with h | h; exact h.1; exact h.2,by show 0 < (loc 0).n; omega⟩) ?_).1
  have hd2 : ∀ i (hi : i < idx.length),w'.cell? ⟨(loc 0).b,(loc 0).base + i,none⟩ = some (hd idx[i]) := fun i hi => by
   rw [hR.row i (by omega),getElem!_pos _ i (by rw [List.size_toArray,List.length_append,List.length_map]; omega),List.getElem_toArray,List.getElem_append_left (by rw [List.length_map]; exact hi),List.getElem_map]
  refine ⟨(by simp only [List.length_map,List.length_cons,List.length_nil,Nat.zero_add,Nat.mul_one]; show idx.length ≤ (loc 0).n; omega),fun r hr => ?_,fun j hj => ?_,fun i j x => ∃ h : i < idx.length,j = 0 ∧ B idx[i].1 0 x,fun i j x ⟨h,_,hx⟩ => b1 _ _ _ hx,fun i j i' j' x hA hA' => ?_,fun i j hi hj hj' v hc => ?_⟩
  ·obtain ⟨a,_,rfl⟩ := List.mem_map.1 hr
   rw [hE]; rfl
  ·obtain ⟨u,hu,hfz⟩ := g2 j hj
   by_cases hjR : j < l.length
   ·exact ⟨_,hR.row j hjR,(hR.frz _).trans hfz⟩
   ·exact ⟨u,(hR.cell _ (.inr (by show (loc 0).base + l.length ≤ (loc 0).base + j; omega))).trans hu,(hR.frz _).trans hfz⟩
  ·obtain ⟨h,ej,hx⟩ := hA
   obtain ⟨h',ej',hx'⟩ := hA'
   have e1 := (b2 _ _ _ _ x hx hx').1
   have e2 : idx[i] = idx[i'] := Fin.ext e1
   refine ⟨?_,by rw [ej,ej']⟩
   rcases Nat.lt_trichotomy i i' with hlt | heq | hlt
   ·exact absurd e2 (List.pairwise_iff_getElem.1 hnd i i' _ _ hlt)
   ·exact heq
   ·exact absurd e2.symm (List.pairwise_iff_getElem.1 hnd i' i _ _ hlt)
  ·have hj0 : j = 0 := by simpa using hj'
   subst hj0
   have hi' : i < idx.length := by simpa using hi
   have h2 := hd2 i hi'
   simp only [List.length_cons,List.length_nil,Nat.zero_add,Nat.mul_one,Nat.add_zero] at hc
   have hc' : w'.cell? ⟨(loc 0).b,(loc 0).base + i,none⟩ = some v := hc
   rw [h2] at hc'
   cases hc'
   have h3 := (hrep idx[i]).mono (w' := w') (B2 := fun x => ∃ h : i < idx.length,0 = 0 ∧ B idx[i].1 0 x) (fun x hx => ⟨hi',rfl,hx⟩) fun b k hb => hK.cell b k (hBlt _ _ hb) fun h => by
    rcases h with h | h
    ·exact (b1 _ _ _ hb).2 h.1
    ·exact (b1 _ _ _ hb).2 h.2
   simpa [hE] using h3
end Go.TL
