import Derived.Test.YtjhcfmcdllfmpaaG0TlCore
import Derived.Test.YtjhcfmcdllfmpaaPlTrim
set_option linter.unusedSimpArgs false
set_option linter.unusedVariables false
namespace Go.TL
structure PacketT where
  Ack : Bool
  No : Int
  Text : ByteArray
  deriving DecidableEq, Inhabited
noncomputable def spec_l1In (a0 : Int) (a1 : Int) (a2 : Int) : Option Bool :=
  (if (decide (a0 ≥ a1)) = true then
    some (decide (a0 ≤ a2))
  else
    some false)
noncomputable def impl_in (a0 : Int) (a1 : Int) (a2 : Int) : Option Bool :=
  (if (decide (a0 ≥ a1)) = true then
    some (decide (a0 ≤ a2))
  else
    some false)
structure l1CurT where
  code : (List Int)
  at_ : Int
  seed : Int
  deriving DecidableEq, Inhabited
structure spec_l1Cur_next_o_J2013 where
  t3 : Int
noncomputable def spec_l1Cur_next_o (a0 : l1CurT) : Option (Int × l1CurT) :=
  (((if (decide (a0.at_ < ((a0.code.length : Nat) : Int))) = true then
      (guardO (0 ≤ a0.at_ ∧ a0.at_ < (a0.code.length : Int)) <|
      some (⟨(wI (nth a0.code a0.at_.toNat))⟩ : spec_l1Cur_next_o_J2013))
    else
      some (⟨0⟩ : spec_l1Cur_next_o_J2013)) : Option spec_l1Cur_next_o_J2013).bind fun p115 =>
  (if (decide ((wI (a0.at_ + 1)) ≤ ((a0.code.length : Nat) : Int))) = true then
    some (p115.t3, (⟨a0.code, (wI (a0.at_ + 1)), (wU ((wU ((wU (a0.seed * 6364136223846793005)) + (wU p115.t3))) + 1442695040888963407))⟩ : l1CurT))
  else
    some ((wI (wU (bvAnd 64 (shR 64 (wU ((wU ((wU (a0.seed * 6364136223846793005)) + (wU p115.t3))) + 1442695040888963407)) 40) 255))), (⟨a0.code, (wI (a0.at_ + 1)), (wU ((wU ((wU (a0.seed * 6364136223846793005)) + (wU p115.t3))) + 1442695040888963407))⟩ : l1CurT))))
noncomputable def spec_l1Cur_pick_o (a0 : l1CurT) (a1 : Int) : Option (Int × l1CurT) :=
  (if (decide (a1 ≤ 1)) = true then
    some (0, a0)
  else
    ((spec_l1Cur_next_o a0).bind fun c116 =>
    (if (decide (a1 > 200)) = true then
      ((spec_l1Cur_next_o c116.2).bind fun c117 =>
      (guardO (a1 ≠ 0) <|
      some (((wI ((wI (c116.1 * 256)) + c117.1)).tmod a1), c117.2)))
    else
      (guardO (a1 ≠ 0) <|
      some ((c116.1.tmod a1), c116.2)))))
noncomputable def spec_l1Cur_one_o (a0 : l1CurT) (a1 : Int) : Option (Bool × l1CurT) :=
  ((spec_l1Cur_pick_o a0 a1).bind fun c122 =>
  some ((c122.1 == 0), c122.2))
structure CallT where
  Now : Int
  Fine : Bool
  deriving DecidableEq, Inhabited
end Go.TL
namespace Go.TL
structure LineStepT where
  Kind : Int
  K : Int
  Text : ByteArray
  deriving DecidableEq, Inhabited
noncomputable def spec_l1Cur_among_ow (a0 : l1CurT) (a1 : (List Int)) : Option (Int × l1CurT) :=
  ((spec_l1Cur_pick_o a0 ((a1.length : Nat) : Int)).bind fun c312 =>
  (guardO (0 ≤ c312.1 ∧ c312.1 < ((a1.length : Nat) : Int)) <|
  some ((nth a1 c312.1.toNat), c312.2)))
end Go.TL
namespace Go.TL
structure DomainT where
  Name : ByteArray
  Version : Int
  Note : ByteArray
  deriving DecidableEq, Inhabited
end Go.TL
namespace Go.TL
structure EventT where
  Id : Int
  Version : Int
  Kind : Int
  Name : ByteArray
  deriving DecidableEq, Inhabited
structure BranchT where
  Events : (List EventT)
  deriving DecidableEq, Inhabited
structure TellingsT where
  Branches : (List BranchT)
  deriving DecidableEq, Inhabited
end Go.TL
namespace Go.TL
end Go.TL
