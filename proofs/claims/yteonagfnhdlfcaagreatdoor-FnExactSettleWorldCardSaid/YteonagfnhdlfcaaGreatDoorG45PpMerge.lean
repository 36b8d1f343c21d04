import Derived.Test.YteonagfnhdlfcaaGreatDoorG24PpR2D
import Derived.Test.YteonagfnhdlfcaaGreatDoorG20PlR3M
import Derived.Test.YteonagfnhdlfcaaGreatDoorG23PpMark
import Derived.Test.YteonagfnhdlfcaaGreatDoorG25PpR3D
open Option renaming bind_some → qa
set_option linter.unusedSimpArgs false
set_option linter.unusedVariables false
noncomputable section
namespace Go.TL
end Go.TL
namespace Go.TL
end Go.TL
namespace Go.TL
theorem zxz (s:zlm) (e:EventT) (hg:zmU s=true) (hev:evP e=true) (hid:e.Id=s.Next):zbA s e.Kind e.Name=some ((zlQ s e).isSome,true):=by
 have n:=znc hg
 have n1:=zmj n.2.2.2.1
 have n2:=zmj n.2.2.2.2
 have hk:decide (1≤e.Kind∧e.Kind≤6)=true∧zmk e.Name=true:=by
  unfold evP at hev
  simp only [Bool.and_eq_true] at hev
  exact ⟨hev.1.2,hev.2⟩
 unfold zbA zai
 rw [zcO s (by omega) (by omega),hg]
 simp only [qa,zc5,zb5,hk.1,hk.2,Bool.not_true,Bool.false_eq_true,if_false]
 have hcl:zaW s=some s:=by
  unfold zaW zaY
  rw [zlb (by omega),zlb (by omega)]
  rfl
 rw [hcl]
 simp only [qa]
 obtain ⟨r,hr,ht,hf⟩:=ziA s e hg hev hid
 rw [hr]
 simp only [qa]
 cases hb:r.1
 ·rw [hf hb];simp
 ·obtain ⟨g1,g2⟩:=ht hb
  have hlen:=zwi hg g2
  rw [if_pos rfl,zcO r.2 (by omega) (by omega)]
  have ha:zlQ s e=if zmU r.2=true then some r.2 else none:=by unfold zlQ;rw [if_pos g1,g2];rfl
  rw [ha]
  simp only [qa]
  cases zmU r.2<;>simp
end Go.TL
