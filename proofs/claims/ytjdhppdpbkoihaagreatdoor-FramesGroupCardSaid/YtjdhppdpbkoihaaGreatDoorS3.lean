/- A part of a straight motion. -/
import Derived.Test.YtjdhppdpbkoihaaGreatDoorR1
namespace Go.Proofs
open Go Go.Eng
end Go.Proofs
