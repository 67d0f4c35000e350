/- The examples of chapter 16 are as they should be. Printed by gen_daw.py. -/
import Derived.Test.YteecfnfjlclhdaaGreatS6
import Derived.Test.YteecfnfjlclhdaaGreatS7
import Derived.Test.YteecfnfjlclhdaaGreatS8
import Derived.Test.YteecfnfjlclhdaaGreatS9
import Derived.Test.YteecfnfjlclhdaaGreatS10
import Derived.Test.YteecfnfjlclhdaaGreatS4

set_option linter.unusedSimpArgs false
set_option linter.unusedVariables false

/- The examples of chapter 16 are as they should be. Printed by gen_daw.py. -/
namespace Go.Proofs.YteecfnfjlclhdaaGreat.V
open Go (IntKind BinOp UnOp)
theorem awT : EE [17] Ga [] [] = some (.p (.bool true), []) := by
 have e1 := aw_mat
 have e2 := aw_ord
 have e3 := aw_cyc
 have e4 := aw_mt1
 have e5 := aw_mt2
 unfold dsgF at e1 e2 e3 e4 e5
 simp [e_rl16_awake, Z0, Z5m, aw_d12, aw_d17, aw_d23, aw_d29, aw_d34, e1, e2, e3, e4, e5, aw_fm, aw_in52, aw_in61, aw_in70, Z4]
end Go.Proofs.YteecfnfjlclhdaaGreat.V
