/- Closed facts on the given program. Conditions: none beyond the statement's own. -/
import Derived.Test.YtkciioajiopobaaGreatDoorCards
import Derived.JoinedOf
import Derived.KernelRfl
set_option linter.all false
noncomputable section
section
open Go Go.Proofs Go.Proofs.YtkciioajiopobaaGreatDoor
set_option maxRecDepth 100000
namespace Pt
theorem fp_main:Tryz.pinned.checked.prog.mainIs = some ((true,"c0e8ed0bb51fec5d7eb6f5a3bbf2271093a614dd327a76bb98680170849fed14" ).1,(true,"c0e8ed0bb51fec5d7eb6f5a3bbf2271093a614dd327a76bb98680170849fed14" ).2.toList):=by kernel_rfl
end Pt
end
end
