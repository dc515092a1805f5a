/- A closed fact of the row of ClusterErrors: which variables the call can name. -/
import Derived.Test.YtcnldppfncojkaaGreatDoorCards
import Derived.ProofKit
namespace Go.Proofs.YtcnldppfncojkaaGreatDoor
set_option maxRecDepth 100000
theorem k13 : (Rows.clusterErrorsRow.named == Tryz.prog.varsNamed 4) = true := by kernel_rfl
end Go.Proofs.YtcnldppfncojkaaGreatDoor
