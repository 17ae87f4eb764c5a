/- A part of a straight motion. -/
import Derived.Test.YtdkakhlabdoilaaGreatDoorR1
/- A part of a straight motion. -/
namespace Go.Proofs
open Go Go.Eng
end Go.Proofs
