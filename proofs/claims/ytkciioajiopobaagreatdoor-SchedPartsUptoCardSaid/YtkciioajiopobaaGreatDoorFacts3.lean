/- Closed facts on the given program. Conditions: none beyond the statement's own. -/
import Derived.Test.YtkciioajiopobaaGreatDoorCards
import Derived.JoinedOf
import Derived.KernelRfl
set_option linter.all false
noncomputable section
section
open Go Go.Proofs Go.Proofs.YtkciioajiopobaaGreatDoor
set_option maxRecDepth 100000
namespace Pt
theorem fp_lift:(false == Tryz.prog.liftsFinal) = true:=by kernel_rfl
theorem fp_make:(Tryz.prog.make == some Rows.schedPartsUptoRow.make) = true:=by kernel_rfl
end Pt
end
end
