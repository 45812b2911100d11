/-
The closed run of this layer.
-/
import Derived.Test.YtbklalklebjiaaaGreatDoorAmc
namespace Go.Proofs.YtbklalklebjiaaaGreatDoor.XAm
open Go Go.Proofs Go.RowKit
set_option maxRecDepth 100000 in
theorem awake16 : isTr (aFunc Tryz.prog orc 100000 1000 15 [] ⟨H0, 8⟩) = true := by kernel_rfl
theorem awake16_calls {w : World} (h : GlobAt H0 8 w) : Calls Tryz.prog 15 #[] w fun e w' => e = .returned (.bool true) ∧ Below w.heap.size w w' :=
  closed_calls mixed H0_cells (Nat.le_refl _) awake16 h
end Go.Proofs.YtbklalklebjiaaaGreatDoor.XAm
