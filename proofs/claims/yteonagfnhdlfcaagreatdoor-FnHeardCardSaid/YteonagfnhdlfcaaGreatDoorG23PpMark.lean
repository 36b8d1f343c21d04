import Derived.Test.YteonagfnhdlfcaaGreatDoorG21PlLib
import Derived.Test.YteonagfnhdlfcaaGreatDoorG19PlR1
import Derived.Test.YteonagfnhdlfcaaGreatDoorG22PpR1
set_option linter.unusedSimpArgs false
set_option linter.unusedVariables false
namespace Go.TL
end Go.TL
namespace Go.TL
def without (l : List PacketT) (k : Nat) : List PacketT := l.take k ++ l.drop (k + 1)
def smallQ (q : QueueT) : Prop := (0 ≤ q.Window ∧ q.Window ≤ 1000) ∧ (0 ≤ q.Base ∧ q.Base ≤ 1000) ∧ q.Sent.length ≤ 1000 ∧ q.Got.length ≤ 1000 ∧ q.Line.length ≤ 1000
end Go.TL
set_option maxRecDepth 4000
namespace Go.TL
end Go.TL
namespace Go.TL
theorem good_small {q : QueueT} (h : goodQ q = true) : smallQ q := by
 unfold goodQ at h
 simp only [Bool.and_eq_true,decide_eq_true_eq] at h
 obtain ⟨⟨⟨⟨⟨⟨⟨h1,h2⟩,h3⟩,h4⟩,h5⟩,h6⟩,h7⟩,h8⟩ := h
 refine ⟨?_,?_,?_,?_,?_⟩ <;> omega
end Go.TL
namespace Go.TL
structure GQ (q : QueueT) : Prop where
 win : 1 ≤ q.Window ∧ q.Window ≤ 10
 sent : q.Sent.length ≤ 40
 size : ∀ s ∈ q.Sent,s.size ≤ 12
 got : q.Got.length ≤ q.Sent.length
 same : q.Got = q.Sent.take q.Got.length
 base : 0 ≤ q.Base ∧ q.Base ≤ q.Got.length
 line : q.Line.length ≤ 40
 pkt : ∀ p ∈ q.Line,pktOk q p = true
theorem goodQ_iff (q : QueueT) : goodQ q = true ↔ GQ q := by
 unfold goodQ
 simp only [Bool.and_eq_true,decide_eq_true_eq,List.all_eq_true]
 exact ⟨fun ⟨⟨⟨⟨⟨⟨⟨h1,h2⟩,h3⟩,h4⟩,h5⟩,h6⟩,h7⟩,h8⟩ => ⟨h1,h2,h3,h4,h5,h6,h7,h8⟩,fun ⟨h1,h2,h3,h4,h5,h6,h7,h8⟩ => ⟨⟨⟨⟨⟨⟨⟨h1,h2⟩,h3⟩,h4⟩,h5⟩,h6⟩,h7⟩,h8⟩⟩
theorem GQ.small {q : QueueT} (h : GQ q) : smallQ q := good_small ((goodQ_iff q).2 h)
end Go.TL
namespace Go.TL
end Go.TL
namespace Go.TL
end Go.TL
