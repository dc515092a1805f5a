/- A closed fact of the row of ClusterErrors: which library functions the call can come to that are answered in place. -/
import Derived.Test.YtcnldppfncojkaaGreatDoorCards
import Derived.ProofKit
namespace Go.Proofs.YtcnldppfncojkaaGreatDoor
set_option maxRecDepth 100000
theorem k10 : (Rows.clusterErrorsRow.inPlace == Tryz.prog.inPlace 4) = true := by kernel_rfl
end Go.Proofs.YtcnldppfncojkaaGreatDoor
