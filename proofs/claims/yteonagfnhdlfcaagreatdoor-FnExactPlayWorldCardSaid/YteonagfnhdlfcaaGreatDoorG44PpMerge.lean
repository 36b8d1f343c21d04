import Derived.Test.YteonagfnhdlfcaaGreatDoorG24PpR2D
import Derived.Test.YteonagfnhdlfcaaGreatDoorG20PlR3M
import Derived.Test.YteonagfnhdlfcaaGreatDoorG23PpMark
import Derived.Test.YteonagfnhdlfcaaGreatDoorG25PpR3D
open Int renaming tmod_eq_emod_of_nonneg → qa
open Option renaming bind_some → qb
set_option linter.unusedSimpArgs false
set_option linter.unusedVariables false
noncomputable section
namespace Go.TL
end Go.TL
namespace Go.TL
theorem zwk {v r:Int} (h:(zls v r).2=true):(zls v r).1.tmod 10=r∧v < (zls v r).1∧0≤(zls v r).1∧(zls v r).1≤1000000:=by
 unfold zls at h ⊢
 split at h
 ·rename_i h1
  rw [if_pos h1]
  split at h
  ·rename_i h2
   rw [if_pos h2]
   refine ⟨?_,?_,h2.1,h2.2⟩
   ·simp only
    rw [qa h2.1]
    unfold zmL
    rw [qa h1.1.1]
    split<;>omega
   ·simp only
    unfold zmL
    rw [qa h1.1.1]
    split<;>omega
  ·cases h
 ·cases h
end Go.TL
namespace Go.TL
theorem zwl (s:zjV) (e:EventT) (hg:zlj s=true) (hev:evP e=true) (hid:e.Id=s.Next):zbi s e.Kind e.Name=some ((zkf s e).isSome,true):=by
 have n:=zlD hg
 have n1:=zkM n.2.2.2.1
 have n2:=zkM n.2.2.2.2
 have hk:decide (1≤e.Kind∧e.Kind≤6)=true∧zkO e.Name=true:=by
  unfold evP at hev
  simp only [Bool.and_eq_true] at hev
  exact ⟨hev.1.2,hev.2⟩
 unfold zbi zS
 rw [zcw s (by omega) (by omega),hg]
 simp only [qb,zcJ,zbT,hk.1,hk.2,Bool.not_true,Bool.false_eq_true,if_false]
 have hcl:zaF s=some s:=by
  unfold zaF zaK
  rw [zjL (by omega),zjL (by omega)]
  rfl
 rw [hcl]
 simp only [qb]
 obtain ⟨r,hr,ht,hf⟩:=zhM s e hg hev hid
 rw [hr]
 simp only [qb]
 cases hb:r.1
 ·rw [hf hb];simp
 ·obtain ⟨g1,g2⟩:=ht hb
  have hlen:=zu1 hg g2
  rw [if_pos rfl,zcw r.2 (by omega) (by omega)]
  have ha:zkf s e=if zlj r.2=true then some r.2 else none:=by unfold zkf;rw [if_pos g1,g2];rfl
  rw [ha]
  simp only [qb]
  cases zlj r.2<;>simp
end Go.TL
