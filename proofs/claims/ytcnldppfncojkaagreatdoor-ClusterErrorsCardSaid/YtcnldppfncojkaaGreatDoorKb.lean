/- A closed fact of the row of ClusterErrors: whether the call can come to what is not followed. -/
import Derived.Test.YtcnldppfncojkaaGreatDoorCards
import Derived.ProofKit
namespace Go.Proofs.YtcnldppfncojkaaGreatDoor
set_option maxRecDepth 100000
theorem k11 : (Rows.clusterErrorsRow.unfollowed == Tryz.prog.unfollowed 4) = true := by kernel_rfl
end Go.Proofs.YtcnldppfncojkaaGreatDoor
