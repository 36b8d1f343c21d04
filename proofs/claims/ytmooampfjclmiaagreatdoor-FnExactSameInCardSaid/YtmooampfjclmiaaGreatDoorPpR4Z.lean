import Derived.Test.YtmooampfjclmiaaGreatDoorG44PpState
import Derived.Test.YtmooampfjclmiaaGreatDoorPlR4Z
set_option linter.unusedSimpArgs false
set_option linter.unusedVariables false
set_option linter.unusedVariables false
set_option linter.unusedSimpArgs false
set_option maxRecDepth 4000
namespace Go.TL
def ok_Region (x : RegionT) : Prop := ok_I x.Id ∧ ok_I x.Version ∧ ok_Tellings x.Tellings
def siz_Region (x : RegionT) : Nat := siz_I x.Id + siz_I x.Version + siz_Tellings x.Tellings
def lk_Region (x : RegionT) : Prop := lk_I x.Id ∧ lk_I x.Version ∧ lk_Tellings x.Tellings
theorem lk_of_Region {x : RegionT} (h : ok_Region x) : lk_Region x := ⟨lk_of_I h.1, lk_of_I h.2.1, lk_of_Tellings h.2.2⟩
theorem laws_szRegion_eq (a : RegionT) (n : Int) (ha : ok_Region a) (h0 : 0 ≤ n) (h1 : n ≤ 4611686018427387904) : laws_szRegion a n = some (szr (siz_Region a) n) := by
  unfold laws_szRegion
  unfold ok_Region at ha
  unfold siz_Region
  have z_Id : siz_I a.Id = 0 := siz0_I _
  rw [z_Id]
  have z_Version : siz_I a.Version = 0 := siz0_I _
  rw [z_Version]
  rw [laws_szTellings_eq _ _ (ha.2.2) (by omega) (by omega)]
  simp only [Option.bind_some]
  by_cases c0 : (siz_Tellings a.Tellings : Int) ≤ n
  rotate_left
  · have e : szr (siz_Tellings a.Tellings) n = -1 := by unfold szr; rw [if_neg c0]
    rw [e, if_pos (by decide)]; unfold szr; rw [if_neg (by omega)]
  have e0 : szr (siz_Tellings a.Tellings) n = n - (siz_Tellings a.Tellings : Int) := by unfold szr; rw [if_pos c0]
  rw [e0, if_neg (by simp; omega)]
  unfold szr; rw [if_pos (by omega)]
  congr 1; omega
theorem laws_toRegion_eq (a : RegionT) (ha : siz_Region a ≤ 4194304) : laws_toRegion a = some a := by
  unfold siz_Region at ha
  unfold laws_toRegion
  rw [laws_toTellings_eq _ (by omega)]
  simp only [Option.bind_some]
  all_goals rfl
theorem laws_eqRegion_eq (a b : RegionT) (ha : lk_Region a) : laws_eqRegion a b = some (decide (a = b)) := by
  unfold lk_Region at ha
  unfold laws_eqRegion
  rw [laws_eqTellings_eq _ _ (ha.2.2)]
  obtain ⟨x0, x1, x2⟩ := a
  obtain ⟨y0, y1, y2⟩ := b
  simp only [sEq, Option.bind_some, RegionT.mk.injEq]
  by_cases h0 : x0 = y0
  rotate_left
  · simp [h0]
  by_cases h1 : x1 = y1
  rotate_left
  · simp [h1]
  by_cases h2 : x2 = y2
  rotate_left
  · simp [h2]
  simp [h0, h1, h2]
def ok_LRegion (x : (List RegionT)) : Prop := x.length ≤ 9223372036854775807 ∧ ∀ y ∈ x, ok_Region y
def siz_LRegion (x : (List RegionT)) : Nat := x.length + sumN (x.map siz_Region)
def lk_LRegion (x : (List RegionT)) : Prop := x.length ≤ 9223372036854775807 ∧ ∀ y ∈ x, lk_Region y
theorem lk_of_LRegion {x : (List RegionT)} (h : ok_LRegion x) : lk_LRegion x := ⟨h.1, fun y hy => lk_of_Region (h.2 y hy)⟩
theorem laws_szRegionS_eq (a : (List RegionT)) (n : Int) (ha : ok_LRegion a) (h0 : 0 ≤ n) (h1 : n ≤ 4611686018427387904) : laws_szRegionS a n = some (szr (siz_LRegion a) n) := by
  obtain ⟨ha1, ha2⟩ := ha
  unfold laws_szRegionS
  rw [wI_id (by omega)]
  by_cases hc : n - ((a.length : Nat) : Int) < 0
  · rw [if_pos (decide_eq_true hc)]
    unfold szr siz_LRegion
    rw [if_neg (by omega)]
  · rw [if_neg (by simpa using hc)]
    have key := sz_loop (step := laws_szRegionS_L1 a) (fun i s => (⟨s, i⟩ : laws_szRegionS_G1)) a siz_Region n (fun s => (.inr ⟨s⟩ : Unit ⊕ laws_szRegionS_P1_1)) (.inl ()) (fun i s hi hs => ?_) (fun s hs => ?_) (n - ((a.length : Nat) : Int)) ⟨by omega, by omega⟩
    · rw [key]
      unfold szr siz_LRegion
      by_cases h : (sumN (a.map siz_Region) : Int) ≤ n - ((a.length : Nat) : Int)
      · rw [if_pos h, if_pos (by omega)]; simp only [Option.bind_some]; congr 1; omega
      · rw [if_neg h, if_neg (by omega)]; rfl
    · have hm := ha2 _ (nth_mem hi)
      unfold laws_szRegionS_L1
      simp (disch := omega) only [decide_eq_true_eq, if_pos, guard_pos, Int.toNat_natCast, wI_id]
      rw [laws_szRegion_eq _ _ hm (by omega) (by omega)]
      simp only [Option.bind_some]
      unfold szr
      by_cases h : (siz_Region (nth a i) : Int) ≤ s
      · rw [if_pos h, if_pos h, if_neg (by omega)]; rfl
      · rw [if_neg h, if_neg h, if_pos (by omega)]
    · unfold laws_szRegionS_L1
      rw [if_neg (by simp)]
def ok_Word (x : WordT) : Prop := ok_I x.Version ∧ ok_Tellings x.Tellings
def siz_Word (x : WordT) : Nat := siz_I x.Version + siz_Tellings x.Tellings
def lk_Word (x : WordT) : Prop := lk_I x.Version ∧ lk_Tellings x.Tellings
theorem lk_of_Word {x : WordT} (h : ok_Word x) : lk_Word x := ⟨lk_of_I h.1, lk_of_Tellings h.2⟩
theorem laws_szWord_eq (a : WordT) (n : Int) (ha : ok_Word a) (h0 : 0 ≤ n) (h1 : n ≤ 4611686018427387904) : laws_szWord a n = some (szr (siz_Word a) n) := by
  unfold laws_szWord
  unfold ok_Word at ha
  unfold siz_Word
  have z_Version : siz_I a.Version = 0 := siz0_I _
  rw [z_Version]
  rw [laws_szTellings_eq _ _ (ha.2) (by omega) (by omega)]
  simp only [Option.bind_some]
  by_cases c0 : (siz_Tellings a.Tellings : Int) ≤ n
  rotate_left
  · have e : szr (siz_Tellings a.Tellings) n = -1 := by unfold szr; rw [if_neg c0]
    rw [e, if_pos (by decide)]; unfold szr; rw [if_neg (by omega)]
  have e0 : szr (siz_Tellings a.Tellings) n = n - (siz_Tellings a.Tellings : Int) := by unfold szr; rw [if_pos c0]
  rw [e0, if_neg (by simp; omega)]
  unfold szr; rw [if_pos (by omega)]
  congr 1; omega
def ok_Said (x : SaidT) : Prop := ok_I x.To ∧ ok_Word x.Word
def siz_Said (x : SaidT) : Nat := siz_I x.To + siz_Word x.Word
def lk_Said (x : SaidT) : Prop := lk_I x.To ∧ lk_Word x.Word
theorem lk_of_Said {x : SaidT} (h : ok_Said x) : lk_Said x := ⟨lk_of_I h.1, lk_of_Word h.2⟩
theorem laws_szSaid_eq (a : SaidT) (n : Int) (ha : ok_Said a) (h0 : 0 ≤ n) (h1 : n ≤ 4611686018427387904) : laws_szSaid a n = some (szr (siz_Said a) n) := by
  unfold laws_szSaid
  unfold ok_Said at ha
  unfold siz_Said
  have z_To : siz_I a.To = 0 := siz0_I _
  rw [z_To]
  rw [laws_szWord_eq _ _ (ha.2) (by omega) (by omega)]
  simp only [Option.bind_some]
  by_cases c0 : (siz_Word a.Word : Int) ≤ n
  rotate_left
  · have e : szr (siz_Word a.Word) n = -1 := by unfold szr; rw [if_neg c0]
    rw [e, if_pos (by decide)]; unfold szr; rw [if_neg (by omega)]
  have e0 : szr (siz_Word a.Word) n = n - (siz_Word a.Word : Int) := by unfold szr; rw [if_pos c0]
  rw [e0, if_neg (by simp; omega)]
  unfold szr; rw [if_pos (by omega)]
  congr 1; omega
def ok_LSaid (x : (List SaidT)) : Prop := x.length ≤ 9223372036854775807 ∧ ∀ y ∈ x, ok_Said y
def siz_LSaid (x : (List SaidT)) : Nat := x.length + sumN (x.map siz_Said)
def lk_LSaid (x : (List SaidT)) : Prop := x.length ≤ 9223372036854775807 ∧ ∀ y ∈ x, lk_Said y
theorem lk_of_LSaid {x : (List SaidT)} (h : ok_LSaid x) : lk_LSaid x := ⟨h.1, fun y hy => lk_of_Said (h.2 y hy)⟩
theorem laws_szSaidS_eq (a : (List SaidT)) (n : Int) (ha : ok_LSaid a) (h0 : 0 ≤ n) (h1 : n ≤ 4611686018427387904) : laws_szSaidS a n = some (szr (siz_LSaid a) n) := by
  obtain ⟨ha1, ha2⟩ := ha
  unfold laws_szSaidS
  rw [wI_id (by omega)]
  by_cases hc : n - ((a.length : Nat) : Int) < 0
  · rw [if_pos (decide_eq_true hc)]
    unfold szr siz_LSaid
    rw [if_neg (by omega)]
  · rw [if_neg (by simpa using hc)]
    have key := sz_loop (step := laws_szSaidS_L1 a) (fun i s => (⟨s, i⟩ : laws_szSaidS_G1)) a siz_Said n (fun s => (.inr ⟨s⟩ : Unit ⊕ laws_szSaidS_P1_1)) (.inl ()) (fun i s hi hs => ?_) (fun s hs => ?_) (n - ((a.length : Nat) : Int)) ⟨by omega, by omega⟩
    · rw [key]
      unfold szr siz_LSaid
      by_cases h : (sumN (a.map siz_Said) : Int) ≤ n - ((a.length : Nat) : Int)
      · rw [if_pos h, if_pos (by omega)]; simp only [Option.bind_some]; congr 1; omega
      · rw [if_neg h, if_neg (by omega)]; rfl
    · have hm := ha2 _ (nth_mem hi)
      unfold laws_szSaidS_L1
      simp (disch := omega) only [decide_eq_true_eq, if_pos, guard_pos, Int.toNat_natCast, wI_id]
      rw [laws_szSaid_eq _ _ hm (by omega) (by omega)]
      simp only [Option.bind_some]
      unfold szr
      by_cases h : (siz_Said (nth a i) : Int) ≤ s
      · rw [if_pos h, if_pos h, if_neg (by omega)]; rfl
      · rw [if_neg h, if_neg h, if_pos (by omega)]
    · unfold laws_szSaidS_L1
      rw [if_neg (by simp)]
def ok_World (x : WorldT) : Prop := ok_LRegion x.Regions ∧ ok_LSaid x.Line
def siz_World (x : WorldT) : Nat := siz_LRegion x.Regions + siz_LSaid x.Line
def lk_World (x : WorldT) : Prop := lk_LRegion x.Regions ∧ lk_LSaid x.Line
theorem lk_of_World {x : WorldT} (h : ok_World x) : lk_World x := ⟨lk_of_LRegion h.1, lk_of_LSaid h.2⟩
theorem laws_szWorld_eq (a : WorldT) (n : Int) (ha : ok_World a) (h0 : 0 ≤ n) (h1 : n ≤ 4611686018427387904) : laws_szWorld a n = some (szr (siz_World a) n) := by
  unfold laws_szWorld
  unfold ok_World at ha
  unfold siz_World
  rw [laws_szRegionS_eq _ _ (ha.1) (by omega) (by omega)]
  simp only [Option.bind_some]
  by_cases c0 : (siz_LRegion a.Regions : Int) ≤ n
  rotate_left
  · have e : szr (siz_LRegion a.Regions) n = -1 := by unfold szr; rw [if_neg c0]
    rw [e, if_pos (by decide)]; unfold szr; rw [if_neg (by omega)]
  have e0 : szr (siz_LRegion a.Regions) n = n - (siz_LRegion a.Regions : Int) := by unfold szr; rw [if_pos c0]
  rw [e0, if_neg (by simp; omega)]
  rw [laws_szSaidS_eq _ _ (ha.2) (by omega) (by omega)]
  simp only [Option.bind_some]
  by_cases c1 : (siz_LSaid a.Line : Int) ≤ (n - (siz_LRegion a.Regions : Int))
  rotate_left
  · have e : szr (siz_LSaid a.Line) (n - (siz_LRegion a.Regions : Int)) = -1 := by unfold szr; rw [if_neg c1]
    rw [e, if_pos (by decide)]; unfold szr; rw [if_neg (by omega)]
  have e1 : szr (siz_LSaid a.Line) (n - (siz_LRegion a.Regions : Int)) = (n - (siz_LRegion a.Regions : Int)) - (siz_LSaid a.Line : Int) := by unfold szr; rw [if_pos c1]
  rw [e1, if_neg (by simp; omega)]
  unfold szr; rw [if_pos (by omega)]
  congr 1; omega
theorem laws_toRegion_F_eq (a : RegionT) (ha : siz_Region a ≤ 4194304) : laws_toRegion_F a = some a := by
  unfold siz_Region at ha
  unfold laws_toRegion_F
  rw [laws_toTellings_eq _ (by omega)]
  simp only [Option.bind_some]
  all_goals rfl
theorem laws_toRegionS_eq (a : (List RegionT)) (ha : siz_LRegion a ≤ 4194304) : laws_toRegionS a = some a := by
  unfold siz_LRegion at ha
  unfold laws_toRegionS
  rw [guard_pos (by omega)]
  have key := fill_loop (step := laws_toRegionS_L1 a) (fun i l => (⟨i, l⟩ : laws_toRegionS_G1)) a (fun x => x) (fun l => (⟨l⟩ : laws_toRegionS_P1_0)) (fun i l hi hl => ?_) (fun l hl => ?_) (List.replicate a.length (⟨0, 0, (⟨[]⟩ : TellingsT)⟩ : RegionT)) (by simp)
  · rw [key]; simp
  · unfold laws_toRegionS_L1
    have hm : siz_Region (nth a i) ≤ 4194304 := Nat.le_trans (sumN_mem siz_Region (nth_mem hi)) (by omega)
    simp (disch := omega) only [decide_eq_true_eq, if_pos, guard_pos, Int.toNat_natCast, wI_id]
    rw [laws_toRegion_F_eq _ hm]
    simp (disch := omega) only [Option.bind_some, guard_pos]
    rfl
  · unfold laws_toRegionS_L1
    rw [if_neg (by simp)]
theorem laws_toWord_eq (a : WordT) (ha : siz_Word a ≤ 4194304) : laws_toWord a = some a := by
  unfold siz_Word at ha
  unfold laws_toWord
  rw [laws_toTellings_eq _ (by omega)]
  simp only [Option.bind_some]
  all_goals rfl
theorem laws_toSaid_F_eq (a : SaidT) (ha : siz_Said a ≤ 4194304) : laws_toSaid_F a = some a := by
  unfold siz_Said at ha
  unfold laws_toSaid_F
  rw [laws_toWord_eq _ (by omega)]
  simp only [Option.bind_some]
  all_goals rfl
theorem laws_toSaidS_eq (a : (List SaidT)) (ha : siz_LSaid a ≤ 4194304) : laws_toSaidS a = some a := by
  unfold siz_LSaid at ha
  unfold laws_toSaidS
  rw [guard_pos (by omega)]
  have key := fill_loop (step := laws_toSaidS_L1 a) (fun i l => (⟨i, l⟩ : laws_toSaidS_G1)) a (fun x => x) (fun l => (⟨l⟩ : laws_toSaidS_P1_0)) (fun i l hi hl => ?_) (fun l hl => ?_) (List.replicate a.length (⟨0, (⟨0, (⟨[]⟩ : TellingsT)⟩ : WordT)⟩ : SaidT)) (by simp)
  · rw [key]; simp
  · unfold laws_toSaidS_L1
    have hm : siz_Said (nth a i) ≤ 4194304 := Nat.le_trans (sumN_mem siz_Said (nth_mem hi)) (by omega)
    simp (disch := omega) only [decide_eq_true_eq, if_pos, guard_pos, Int.toNat_natCast, wI_id]
    rw [laws_toSaid_F_eq _ hm]
    simp (disch := omega) only [Option.bind_some, guard_pos]
    rfl
  · unfold laws_toSaidS_L1
    rw [if_neg (by simp)]
theorem laws_toWorld_eq (a : WorldT) (ha : siz_World a ≤ 4194304) : laws_toWorld a = some a := by
  unfold siz_World at ha
  unfold laws_toWorld
  rw [laws_toRegionS_eq _ (by omega)]
  simp only [Option.bind_some]
  rw [laws_toSaidS_eq _ (by omega)]
  simp only [Option.bind_some]
  all_goals rfl
theorem laws_eqRegionS_eq (a b : (List RegionT)) (ha : lk_LRegion a) : laws_eqRegionS a b = some (decide (a = b)) := by
  obtain ⟨ha1, ha2⟩ := ha
  unfold laws_eqRegionS
  by_cases hl : a.length = b.length
  · rw [if_neg (by simp [hl])]
    have key := eq_loop (step := laws_eqRegionS_L1 a b) (fun i => (⟨i⟩ : laws_eqRegionS_G1)) a b hl (fun i hi => ?_) ?_
    · rw [key]; by_cases h : a = b <;> simp [h]
    · have hm := ha2 _ (nth_mem hi)
      unfold laws_eqRegionS_L1
      simp (disch := omega) only [decide_eq_true_eq, if_pos, guard_pos, Int.toNat_natCast, wI_id]
      rw [laws_eqRegion_eq _ _ hm]; simp only [Option.bind_some]
      by_cases h : nth a i = nth b i <;> simp [h]
    · unfold laws_eqRegionS_L1
      rw [if_neg (by simp)]
  · rw [if_pos (by simp; omega)]
    simp [show a ≠ b from fun h => hl (by rw [h])]
theorem laws_eqWord_eq (a b : WordT) (ha : lk_Word a) : laws_eqWord a b = some (decide (a = b)) := by
  unfold lk_Word at ha
  unfold laws_eqWord
  rw [laws_eqTellings_eq _ _ (ha.2)]
  obtain ⟨x0, x1⟩ := a
  obtain ⟨y0, y1⟩ := b
  simp only [sEq, Option.bind_some, WordT.mk.injEq]
  by_cases h0 : x0 = y0
  rotate_left
  · simp [h0]
  by_cases h1 : x1 = y1
  rotate_left
  · simp [h1]
  simp [h0, h1]
theorem laws_eqSaid_eq (a b : SaidT) (ha : lk_Said a) : laws_eqSaid a b = some (decide (a = b)) := by
  unfold lk_Said at ha
  unfold laws_eqSaid
  rw [laws_eqWord_eq _ _ (ha.2)]
  obtain ⟨x0, x1⟩ := a
  obtain ⟨y0, y1⟩ := b
  simp only [sEq, Option.bind_some, SaidT.mk.injEq]
  by_cases h0 : x0 = y0
  rotate_left
  · simp [h0]
  by_cases h1 : x1 = y1
  rotate_left
  · simp [h1]
  simp [h0, h1]
theorem laws_eqSaidS_eq (a b : (List SaidT)) (ha : lk_LSaid a) : laws_eqSaidS a b = some (decide (a = b)) := by
  obtain ⟨ha1, ha2⟩ := ha
  unfold laws_eqSaidS
  by_cases hl : a.length = b.length
  · rw [if_neg (by simp [hl])]
    have key := eq_loop (step := laws_eqSaidS_L1 a b) (fun i => (⟨i⟩ : laws_eqSaidS_G1)) a b hl (fun i hi => ?_) ?_
    · rw [key]; by_cases h : a = b <;> simp [h]
    · have hm := ha2 _ (nth_mem hi)
      unfold laws_eqSaidS_L1
      simp (disch := omega) only [decide_eq_true_eq, if_pos, guard_pos, Int.toNat_natCast, wI_id]
      rw [laws_eqSaid_eq _ _ hm]; simp only [Option.bind_some]
      by_cases h : nth a i = nth b i <;> simp [h]
    · unfold laws_eqSaidS_L1
      rw [if_neg (by simp)]
  · rw [if_pos (by simp; omega)]
    simp [show a ≠ b from fun h => hl (by rw [h])]
theorem laws_eqWorld_eq (a b : WorldT) (ha : lk_World a) : laws_eqWorld a b = some (decide (a = b)) := by
  unfold lk_World at ha
  unfold laws_eqWorld
  rw [laws_eqRegionS_eq _ _ (ha.1)]
  rw [laws_eqSaidS_eq _ _ (ha.2)]
  obtain ⟨x0, x1⟩ := a
  obtain ⟨y0, y1⟩ := b
  simp only [sEq, Option.bind_some, WorldT.mk.injEq]
  by_cases h0 : x0 = y0
  rotate_left
  · simp [h0]
  by_cases h1 : x1 = y1
  rotate_left
  · simp [h1]
  simp [h0, h1]
end Go.TL
