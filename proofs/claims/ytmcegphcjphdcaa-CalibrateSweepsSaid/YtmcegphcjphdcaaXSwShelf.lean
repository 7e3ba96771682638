import Derived.Shelf.Small.Bits
import Derived.Test.YtmcegphcjphdcaaProg
namespace Go.Proofs
open Go.Shelf
end Go.Proofs
