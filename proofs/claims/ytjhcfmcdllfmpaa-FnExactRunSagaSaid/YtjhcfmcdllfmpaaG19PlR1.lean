import Derived.Test.YtjhcfmcdllfmpaaG0TlCore
import Derived.Test.YtjhcfmcdllfmpaaPlTrim
set_option linter.unusedSimpArgs false
set_option linter.unusedVariables false
namespace Go.TL
structure PacketT where
  Ack : Bool
  No : Int
  Text : ByteArray
  deriving DecidableEq, Inhabited
noncomputable def spec_l1In (a0 : Int) (a1 : Int) (a2 : Int) : Option Bool :=
  (if (decide (a0 ≥ a1)) = true then
    some (decide (a0 ≤ a2))
  else
    some false)
noncomputable def impl_in (a0 : Int) (a1 : Int) (a2 : Int) : Option Bool :=
  (if (decide (a0 ≥ a1)) = true then
    some (decide (a0 ≤ a2))
  else
    some false)
structure CallT where
  Now : Int
  Fine : Bool
  deriving DecidableEq, Inhabited
end Go.TL
namespace Go.TL
structure LineStepT where
  Kind : Int
  K : Int
  Text : ByteArray
  deriving DecidableEq, Inhabited
end Go.TL
namespace Go.TL
structure DomainT where
  Name : ByteArray
  Version : Int
  Note : ByteArray
  deriving DecidableEq, Inhabited
end Go.TL
namespace Go.TL
structure EventT where
  Id : Int
  Version : Int
  Kind : Int
  Name : ByteArray
  deriving DecidableEq, Inhabited
structure BranchT where
  Events : (List EventT)
  deriving DecidableEq, Inhabited
structure TellingsT where
  Branches : (List BranchT)
  deriving DecidableEq, Inhabited
end Go.TL
namespace Go.TL
end Go.TL
