/- Closed facts of the program: offsets, sizes, zero values. -/
import Derived.Test.YtcbdclhoekokpaaGreatDoorFw
namespace Go.Proofs.YtcbdclhoekokpaaGreatDoor
open Go.RowKit M
end Go.Proofs.YtcbdclhoekokpaaGreatDoor
