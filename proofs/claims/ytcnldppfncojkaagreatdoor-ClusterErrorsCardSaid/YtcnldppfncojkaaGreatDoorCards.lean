/-
  DERIVED. GIVEN WITH THE SEED: THE CARDS: each row of YtcnldppfncojkaaGreatDoorRows.lean that lists a variable, with what it lists TIED to the program's text (the seventh form; the later family's looks); each row that meets fmt, with fmt's text TOLD by the authors' own Lean function (tested against real Go, not proved from fmt's source: count such statements apart). THE CARD IS WHAT COUNTS. Prove the row's statement (the work); the ties are given (YtcnldppfncojkaaGreatDoorTie.lean); close each card by the builder's one call (the guide's Derived/Test/ToyasCard.lean, 'card_holds'). Laid BY PROGRAM, IN A SANDBOX (cutbox-door.mjs). By AI agents, Wed Nov 11 2026. No macro, syntax, notation, axiom, sorry.
-/
import Derived.Test.YtcnldppfncojkaaGreatDoorRows
import GoSem.ClaimSeven
namespace Go.Proofs.YtcnldppfncojkaaGreatDoor
namespace Rows

/-- THE TIED CARD OF 'gavellaw21.ServerDead'. -/
def serverDeadCard : Claim7 := { stood := { row := serverDeadRow, standIns := [], harness := (true, "88ca498914e2ab2dd348f81cb1a11364c41c5756fd01e17235d5a701fe9b5afc"), looks := true }, kinds := [], alts := [], laidByText := true, laidKinds := [.data, .data, .data, .data, .pinned], laidTests := true, laidLooks := .later }
def ServerDeadCardSaid : Prop := Claim7.holds Tryz.pinned (.plain (OpenSpec.ofChange serverDeadSpec)) serverDeadCard

/-- THE TIED CARD OF 'gavellaw24.ClusterErrors'. -/
def clusterErrorsCard : Claim7 := { stood := { row := clusterErrorsRow, standIns := [], harness := (true, "88ca498914e2ab2dd348f81cb1a11364c41c5756fd01e17235d5a701fe9b5afc"), looks := true }, kinds := [], alts := [], laidByText := true, laidKinds := [.data, .data, .data, .data, .pinned], laidTests := true, laidLooks := .later }
def ClusterErrorsCardSaid : Prop := Claim7.holds Tryz.pinned (.plain (OpenSpec.ofChange clusterErrorsSpec)) clusterErrorsCard

/-- THE TIED CARD OF 'gavellaw25.ScriptErrors'. -/
def scriptErrorsCard : Claim7 := { stood := { row := scriptErrorsRow, standIns := [], harness := (true, "88ca498914e2ab2dd348f81cb1a11364c41c5756fd01e17235d5a701fe9b5afc"), looks := true }, kinds := [], alts := [], laidByText := true, laidKinds := [.data, .data, .data, .data, .pinned], laidTests := true, laidLooks := .later }
def ScriptErrorsCardSaid : Prop := Claim7.holds Tryz.pinned (.plain (OpenSpec.ofChange scriptErrorsSpec)) scriptErrorsCard

/-- THE SECOND FORM's CARD OF 'gavellaw21.ServerDead'. -/
def serverDeadUptoCard : Claim7 := { stood := { row := serverDeadUptoRow, standIns := [], harness := (true, "88ca498914e2ab2dd348f81cb1a11364c41c5756fd01e17235d5a701fe9b5afc"), looks := true }, kinds := [], alts := [], laidByText := true, laidKinds := [.data, .data, .data, .data, .pinned], laidTests := true, laidLooks := .later }
def ServerDeadUptoCardSaid : Prop := Claim7.holds Tryz.pinned (.plain (OpenSpec.upto serverDeadSpec)) serverDeadUptoCard

/-- THE SECOND FORM's CARD OF 'gavellaw24.ClusterErrors'. -/
def clusterErrorsUptoCard : Claim7 := { stood := { row := clusterErrorsUptoRow, standIns := [], harness := (true, "88ca498914e2ab2dd348f81cb1a11364c41c5756fd01e17235d5a701fe9b5afc"), looks := true }, kinds := [], alts := [], laidByText := true, laidKinds := [.data, .data, .data, .data, .pinned], laidTests := true, laidLooks := .later }
def ClusterErrorsUptoCardSaid : Prop := Claim7.holds Tryz.pinned (.plain (OpenSpec.upto clusterErrorsSpec)) clusterErrorsUptoCard

/-- THE SECOND FORM's CARD OF 'gavellaw25.ScriptErrors'. -/
def scriptErrorsUptoCard : Claim7 := { stood := { row := scriptErrorsUptoRow, standIns := [], harness := (true, "88ca498914e2ab2dd348f81cb1a11364c41c5756fd01e17235d5a701fe9b5afc"), looks := true }, kinds := [], alts := [], laidByText := true, laidKinds := [.data, .data, .data, .data, .pinned], laidTests := true, laidLooks := .later }
def ScriptErrorsUptoCardSaid : Prop := Claim7.holds Tryz.pinned (.plain (OpenSpec.upto scriptErrorsSpec)) scriptErrorsUptoCard
end Rows
end Go.Proofs.YtcnldppfncojkaaGreatDoor
