/- A closed fact of the row of ClusterErrors: whether the call can come to a function that calls itself. -/
import Derived.Test.YtcnldppfncojkaaGreatDoorCards
import Derived.ProofKit
namespace Go.Proofs.YtcnldppfncojkaaGreatDoor
set_option maxRecDepth 100000
theorem k12 : (Rows.clusterErrorsRow.recurses == Tryz.prog.recurses 4) = true := by kernel_rfl
end Go.Proofs.YtcnldppfncojkaaGreatDoor
