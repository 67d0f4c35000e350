/- An example of chapter 16. Printed by gen_daw.py. -/
import Derived.Test.YteecfnfjlclhdaaGreatS5

set_option linter.unusedSimpArgs false
set_option linter.unusedVariables false

/- An example of chapter 16. Printed by gen_daw.py. -/
namespace Go.Proofs.YteecfnfjlclhdaaGreat.V
open Go (IntKind BinOp UnOp)
theorem aw_mt2 : EE [35, 17] Na [.p dsgF, .p (.int .i64 0), .p (.int .i64 1)] [] = some ((.p (.tup [(.sl 1 (some true) []), (.int .i64 12)])), []) := E_with (a0 := Z5 exD) (r0 := .tup [I 0, I 0]) Z94 100 30 orc_no (by kernel_rfl)
end Go.Proofs.YteecfnfjlclhdaaGreat.V
