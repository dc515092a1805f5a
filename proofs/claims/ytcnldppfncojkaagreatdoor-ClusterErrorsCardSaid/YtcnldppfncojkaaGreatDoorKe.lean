/- The other closed facts of the row of ClusterErrors. -/
import Derived.Test.YtcnldppfncojkaaGreatDoorCards
import Derived.ProofKit
import Derived.ClosedOfChecked
namespace Go.Proofs.YtcnldppfncojkaaGreatDoor
set_option maxRecDepth 100000
theorem typesSame : Tryz.checked.prog.types = Tryz.checked.src.types := by kernel_rfl
theorem allSpec : ClosedOfChecked.AllSpec Tryz.prog := ClosedOfChecked.allSpec_of Tryz.checked.wellFormed typesSame
theorem l2 : laidOutB Tryz.prog = true := ClosedOfChecked.laidOutB_of allSpec (by kernel_rfl)
theorem l3 : mapsRowed Tryz.prog = true := ClosedOfChecked.mapsRowed_of allSpec
theorem l1 : Rows.clusterErrorsRow.wf (OpenSpec.ofChange (OpenSpec.ofChange Rows.clusterErrorsSpec).bare) = true := by kernel_rfl
theorem l4 : Tryz.f4.params.all (Tryz.prog.readableRec ·) = true := by kernel_rfl
theorem l5 : namedTie Tryz.prog Rows.clusterErrorsRow.named (OpenSpec.ofChange Rows.clusterErrorsSpec).bare.vars = true := by kernel_rfl
theorem l6 : (Rows.clusterErrorsRow.stops == []) = true := by kernel_rfl
theorem l7 : (Tryz.prog.stops == []) = true := by kernel_rfl
theorem l8 : (Rows.clusterErrorsRow.knobs == []) = true := by kernel_rfl
theorem l9 : (Tryz.prog.stopKnobs == []) = true := by kernel_rfl
theorem l14 : (Rows.clusterErrorsRow.maps == (Tryz.f4.params.toList ++ (OpenSpec.ofChange Rows.clusterErrorsSpec).bare.plain.varTypes Tryz.prog).any (Tryz.prog.mapsRec ·)) = true := by kernel_rfl
theorem l15 : (Rows.clusterErrorsRow.ifaces == (Tryz.f4.params.toList ++ (OpenSpec.ofChange Rows.clusterErrorsSpec).bare.plain.varTypes Tryz.prog).any (Tryz.prog.ifacesRec ·)) = true := by kernel_rfl
theorem l16 : (Rows.clusterErrorsRow.mapsOut == Tryz.prog.mapsAmong Tryz.f4.resultTypes.toList) = true := by kernel_rfl
theorem l17 : (Rows.clusterErrorsRow.loops == (Tryz.f4.params.toList ++ (OpenSpec.ofChange Rows.clusterErrorsSpec).bare.plain.varTypes Tryz.prog).any (Tryz.prog.loopsFrom ·)) = true := by kernel_rfl
theorem l18 : (Rows.clusterErrorsRow.wideKeys == (Tryz.f4.params.toList ++ (OpenSpec.ofChange Rows.clusterErrorsSpec).bare.plain.varTypes Tryz.prog ++ Tryz.f4.resultTypes.toList).any (Tryz.prog.wideKeysFrom ·)) = true := by kernel_rfl
theorem l19 : (OpenSpec.ofChange Rows.clusterErrorsSpec).bare.vars.all (Tryz.prog.varReadable ·) = true := by kernel_rfl
theorem l20 : Tryz.f4.resultTypes.all (fun t => Tryz.prog.readableRec t && decide (t < Tryz.prog.types.size)) = true := by kernel_rfl
theorem l21 : (Rows.clusterErrorsRow.ifacesOut == Tryz.f4.resultTypes.toList.any (Tryz.prog.ifacesRec ·)) = true := by kernel_rfl
theorem l22 : (Rows.clusterErrorsRow.loopsOut == Tryz.f4.resultTypes.toList.any (Tryz.prog.loopsFrom ·)) = true := by kernel_rfl
theorem l23 : (Rows.clusterErrorsRow.plainKeys == Tryz.prog.plainKeys) = true := by kernel_rfl
theorem l24 : Rows.clusterErrorsRow.shortTexts.isNone = true := by kernel_rfl
theorem l25 : Tryz.prog.stopsHeard = true := by kernel_rfl
theorem l26 : Tryz.prog.mayEnter = true := by kernel_rfl
theorem l27 : (Rows.clusterErrorsRow.lifted == Tryz.prog.liftsFinal) = true := by kernel_rfl
theorem l28 : (Tryz.prog.make == some Rows.clusterErrorsRow.make) = true := by kernel_rfl
theorem l29 : (Rows.clusterErrorsRow.kinds == (if Rows.clusterErrorsRow.domain.isEmpty then [] else Tryz.f4.params.toList.map fun t => match Tryz.prog.underlying t with | some (.int k) => some k | _ => none)) = true := by kernel_rfl
theorem l30 : (Rows.clusterErrorsRow.pinned == Rows.clusterErrorsRow.pinnedBy) = true := by kernel_rfl
theorem l31 : (Rows.clusterErrorsRow.veiled == (Tryz.f4.params.toList ++ (OpenSpec.ofChange Rows.clusterErrorsSpec).bare.plain.varTypes Tryz.prog ++ Tryz.f4.resultTypes.toList).any (Tryz.prog.veiledRec ·)) = true := by kernel_rfl
theorem l32 : Rows.clusterErrorsRow.veiledFits Tryz.prog Tryz.f4.params.toList (Tryz.f4.params.toList ++ (OpenSpec.ofChange Rows.clusterErrorsSpec).bare.plain.varTypes Tryz.prog ++ Tryz.f4.resultTypes.toList) = true := by kernel_rfl
theorem rowFacts (k10 : (Rows.clusterErrorsRow.inPlace == Tryz.prog.inPlace 4) = true) (k11 : (Rows.clusterErrorsRow.unfollowed == Tryz.prog.unfollowed 4) = true) (k12 : (Rows.clusterErrorsRow.recurses == Tryz.prog.recurses 4) = true) (k13 : (Rows.clusterErrorsRow.named == Tryz.prog.varsNamed 4) = true) :
    joinedFacts Tryz.prog 4 Tryz.f4 (OpenSpec.ofChange Rows.clusterErrorsSpec).bare Rows.clusterErrorsRow = true := by
  simp only [joinedFacts, Bool.and_eq_true]
  exact ⟨⟨⟨⟨⟨⟨⟨⟨⟨⟨⟨⟨⟨⟨⟨⟨⟨⟨⟨⟨⟨⟨⟨⟨⟨⟨⟨⟨⟨⟨⟨l1, l2⟩, l3⟩, l4⟩, l5⟩, l6⟩, l7⟩, l8⟩, l9⟩, k10⟩, k11⟩, k12⟩, k13⟩, l14⟩, l15⟩, l16⟩, l17⟩, l18⟩, l19⟩, l20⟩, l21⟩, l22⟩, l23⟩, l24⟩, l25⟩, l26⟩, l27⟩, l28⟩, l29⟩, l30⟩, l31⟩, l32⟩
end Go.Proofs.YtcnldppfncojkaaGreatDoor
