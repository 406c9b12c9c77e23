/- Parse over lists; no path begins another. -/
import Derived.Test.YtokpnfljjjjikaaGreatDoorPLoc
namespace Go.Proofs.YtokpnfljjjjikaaGreatDoor.PathL
open Go.RowKit Go.Proofs.YtokpnfljjjjikaaGreatDoor Go.Proofs.YtokpnfljjjjikaaGreatDoor.QPath Go.Proofs.YtokpnfljjjjikaaGreatDoorW.PrintWords Go.Proofs.YtokpnfljjjjikaaGreatDoorW.PrintMore

def nullL (l : List UInt8) : Bool := nextIs 60 l && nextIs 62 (l.drop 1)
def synL (l : List UInt8) : Bool := nextIs 60 l && (innerL (l.drop 1)).1 && nextIs 62 (l.drop (1 + (innerL (l.drop 1)).2.2.2.2.2))
end Go.Proofs.YtokpnfljjjjikaaGreatDoor.PathL
